/- Contracts of functions of the program: what each call returns, and that it changes nothing that was. Conditions: as each says. -/
import Derived.Test.YtadmofdamcajkaaDoorTy
import Derived.Test.YtadmofdamcajkaaDoorNatI
import Derived.Test.YtadmofdamcajkaaDoorSxD
import Derived.Test.YtadmofdamcajkaaDoorSxT
import Derived.Test.YtadmofdamcajkaaDoorTab
import Derived.Test.YtadmofdamcajkaaDoorLay
import Derived.Test.YtadmofdamcajkaaDoorLayB
import Derived.Test.YtadmofdamcajkaaDoorNatX
import Derived.Test.YtadmofdamcajkaaDoorSxP
set_option linter.unusedVariables false
set_option linter.unusedSimpArgs false
namespace Go.Proofs.YtadmofdamcajkaaDoor
open Go Go.RowKit
set_option maxRecDepth 100000
theorem c_szIntS {w : World} {va : Value} {lva uva : Nat} {zs : List Int} {n : Int} (hva : Sl w lva uva va (zs)) (bzs : zs.length ≤ 9223372036854775807) (hn : 0 ≤ n ∧ n ≤ 1048576) :
  Ret Tryd.prog 29 [va, .int .i64 n] w fun v w' => ∃ r, v = .int .i64 (r) ∧ (r < 0 ∨ (0 ≤ r ∧ r = n - (zs).length)) ∧ Chg 0 0 w w' := by
 have hva0 := hva.fit
 refine sx_enter Tryd.func29 rfl Tryd.ntmps29 (nbl rfl) ?_
 refine sx_seq fun K1 k1 => sx_region ?_
 refine av rfl rfl (wl_nil (q_n (k1 _ _ ?_)))
 refine sx_seq fun K2 k2 => sx_region ?_
 refine mv rfl rfl (mv rfl rfl (sp rfl (px_len rfl Tryd.underlying22 hva0) ?_))
 refine sp rfl (px_sub rfl rfl (by omega)) ?_
 refine av rfl rfl (wl_nil (q_n (k2 _ _ ?_)))
 refine sx_seq fun K3 k3 => ?_
 refine sx_seq fun K4 k4 => sx_region ?_
 refine mv rfl rfl (sp rfl (px_lt rfl rfl) ?_)
 refine wl_nil (q_n (k4 _ _ ?_))
 refine sx_condP rfl (fun h248 => ?_) (fun h248 => ?_)
 ·
  refine sx_seq fun K5 k5 => sx_region ?_
  refine av rfl rfl (wl_nil (q_n (k5 _ _ ?_)))
  refine sx_retc ?_
  refine q_r (sx_ret1 Tryd.results29 rfl ?_)
  exact ⟨_, rfl, by omega, (Chg.refl 0 0 _)⟩
 refine sx_skip ?_
 refine q_n (k3 _ _ ?_)
 refine sx_seq fun K6 k6 => sx_region ?_
 refine mv rfl rfl (av rfl rfl (wl_nil (q_n (k6 _ _ ?_))))
 refine sx_retc ?_
 refine sx_ret1 Tryd.results29 rfl ?_
 exact ⟨_, rfl, by omega, (Chg.refl 0 0 _)⟩

theorem c_szSigned {w : World} {n1 : Bool} {v1 : Value} {lv1 uv1 : Nat} {z1 : List Int} {n : Int} (hv1 : Sl w lv1 uv1 v1 (z1)) (bz1 : z1.length ≤ 9223372036854775807) (hn : 0 ≤ n ∧ n ≤ 1048576) :
  Ret Tryd.prog 16 [.agg #[.bool n1, v1], .int .i64 n] w fun v w' => ∃ r, v = .int .i64 (r) ∧ (r < 0 ∨ (0 ≤ r ∧ r = n - (z1).length)) ∧ Chg 0 0 w w' := by
 have hv10 := hv1.fit
 refine sx_enter Tryd.func16 rfl Tryd.ntmps16 (nbl rfl) ?_
 refine sx_seq fun K1 k1 => sx_region ?_
 refine sx_box [.bool n1, v1] rfl rfl rfl (fun b2 w3 eb2 sb2 fb2 cb2 => ?_)
 have zw3 := cb2.size
 refine av rfl rfl (wl_nil (q_n (k1 _ _ ?_)))
 refine sx_seq fun K4 k4 => sx_region ?_
 refine sp rfl (px_field rfl xfld24x1) ?_
 refine sp rfl (px_load rfl (fb2.load1 rfl Tryd.isAgg22)) ?_
 refine mv rfl rfl ?_
 have f5 := hv10.ext cb2
 refine sx_call rfl rfl Tryd.call29 (c_szIntS f5 (by omega) (by omega)) (fun v6 w6 p6 => ?_)
 obtain ⟨r6, rfl, hr6, c6⟩ := p6
 have zw6 := c6.size
 refine av rfl rfl (wl_nil (q_n (k4 _ _ ?_)))
 refine sx_seq fun K7 k7 => ?_
 refine sx_seq fun K8 k8 => sx_region ?_
 refine mv rfl rfl (sp rfl (px_lt rfl rfl) ?_)
 refine wl_nil (q_n (k8 _ _ ?_))
 refine sx_condP rfl (fun h256 => ?_) (fun h256 => ?_)
 ·
  refine sx_seq fun K9 k9 => sx_region ?_
  refine av rfl rfl (wl_nil (q_n (k9 _ _ ?_)))
  refine sx_retc ?_
  refine q_r (sx_ret1 Tryd.results16 rfl ?_)
  exact ⟨_, rfl, by omega, (cb2.t c6)⟩
 refine sx_skip ?_
 refine q_n (k7 _ _ ?_)
 refine sx_seq fun K10 k10 => sx_region ?_
 refine mv rfl rfl (av rfl rfl (wl_nil (q_n (k10 _ _ ?_))))
 refine sx_retc ?_
 refine sx_ret1 Tryd.results16 rfl ?_
 exact ⟨_, rfl, by omega, (cb2.t c6)⟩

theorem c_szDec {w : World} {n1 : Bool} {v1 : Value} {lv1 uv1 : Nat} {z1 : List Int} {p1 : Int} {n : Int} (hv1 : Sl w lv1 uv1 v1 (z1)) (bz1 : z1.length ≤ 9223372036854775807) (hn : 0 ≤ n ∧ n ≤ 1048576) :
  Ret Tryd.prog 9 [.agg #[.bool n1, v1, .int .i64 p1], .int .i64 n] w fun v w' => ∃ r, v = .int .i64 (r) ∧ (r < 0 ∨ (0 ≤ r ∧ r = n - (z1).length)) ∧ Chg 0 0 w w' := by
 have hv10 := hv1.fit
 refine sx_enter Tryd.func9 rfl Tryd.ntmps9 (nbl rfl) ?_
 refine sx_seq fun K1 k1 => sx_region ?_
 refine sx_box [.bool n1, v1, .int .i64 p1] rfl rfl rfl (fun b2 w3 eb2 sb2 fb2 cb2 => ?_)
 have zw3 := cb2.size
 refine av rfl rfl (wl_nil (q_n (k1 _ _ ?_)))
 refine sx_seq fun K4 k4 => sx_region ?_
 refine sp rfl (px_field rfl xfld26x0) ?_
 refine sp rfl (px_load rfl (fb2.loadA (vs := [.bool n1, v1]) (look_lit rfl) Tryd.isAgg24 Tryd.sizeOf24)) ?_
 refine mv rfl rfl ?_
 have f5 := hv10.ext cb2
 refine sx_call rfl rfl Tryd.call16 (c_szSigned f5 (by omega) (by omega)) (fun v6 w6 p6 => ?_)
 obtain ⟨r6, rfl, hr6, c6⟩ := p6
 have zw6 := c6.size
 refine av rfl rfl (wl_nil (q_n (k4 _ _ ?_)))
 refine sx_seq fun K7 k7 => ?_
 refine sx_seq fun K8 k8 => sx_region ?_
 refine mv rfl rfl (sp rfl (px_lt rfl rfl) ?_)
 refine wl_nil (q_n (k8 _ _ ?_))
 refine sx_condP rfl (fun h398 => ?_) (fun h398 => ?_)
 ·
  refine sx_seq fun K9 k9 => sx_region ?_
  refine av rfl rfl (wl_nil (q_n (k9 _ _ ?_)))
  refine sx_retc ?_
  refine q_r (sx_ret1 Tryd.results9 rfl ?_)
  exact ⟨_, rfl, by omega, (cb2.t c6)⟩
 refine sx_skip ?_
 refine q_n (k7 _ _ ?_)
 refine sx_seq fun K10 k10 => sx_region ?_
 refine mv rfl rfl (av rfl rfl (wl_nil (q_n (k10 _ _ ?_))))
 refine sx_retc ?_
 refine sx_ret1 Tryd.results9 rfl ?_
 exact ⟨_, rfl, by omega, (cb2.t c6)⟩

theorem c_szRate {w : World} {f1 : ByteArray} {t1 : ByteArray} {n1 : Bool} {v1 : Value} {lv1 uv1 : Nat} {z1 : List Int} {p1 : Int} {n : Int} (hv1 : Sl w lv1 uv1 v1 (z1)) (bf1 : f1.size ≤ 9223372036854775807) (bt1 : t1.size ≤ 9223372036854775807) (bz1 : z1.length ≤ 9223372036854775807) (hn : 0 ≤ n ∧ n ≤ 1048576) :
  Ret Tryd.prog 4 [.agg #[.string f1, .string t1, .bool n1, v1, .int .i64 p1], .int .i64 n] w fun v w' => ∃ r, v = .int .i64 (r) ∧ (r < 0 ∨ (0 ≤ r ∧ r ≤ n - (z1).length)) ∧ Chg 0 0 w w' := by
 have hv10 := hv1.fit
 refine sx_enter Tryd.func4 rfl Tryd.ntmps4 (nbl rfl) ?_
 refine sx_seq fun K1 k1 => sx_region ?_
 refine sx_box [.string f1, .string t1, .bool n1, v1, .int .i64 p1] rfl rfl rfl (fun b2 w3 eb2 sb2 fb2 cb2 => ?_)
 have zw3 := cb2.size
 refine av rfl rfl (wl_nil (q_n (k1 _ _ ?_)))
 refine sx_seq fun K4 k4 => sx_region ?_
 refine mv rfl rfl (sp rfl (px_field rfl xfld28x0) ?_)
 refine sp rfl (px_load rfl (fb2.load1 rfl Tryd.isAgg9)) ?_
 refine sp rfl (px_lenS rfl Tryd.underlying9) ?_
 refine sp rfl (px_sub rfl rfl (by omega)) ?_
 refine av rfl rfl (wl_nil (q_n (k4 _ _ ?_)))
 refine sx_seq fun K5 k5 => ?_
 refine sx_seq fun K6 k6 => sx_region ?_
 refine mv rfl rfl (sp rfl (px_lt rfl rfl) ?_)
 refine wl_nil (q_n (k6 _ _ ?_))
 refine sx_condP rfl (fun h542 => ?_) (fun h542 => ?_)
 ·
  refine sx_seq fun K7 k7 => sx_region ?_
  refine av rfl rfl (wl_nil (q_n (k7 _ _ ?_)))
  refine sx_retc ?_
  refine q_r (sx_ret1 Tryd.results4 rfl ?_)
  exact ⟨_, rfl, by omega, cb2⟩
 refine sx_skip ?_
 refine q_n (k5 _ _ ?_)
 refine sx_seq fun K8 k8 => sx_region ?_
 refine mv rfl rfl (sp rfl (px_field rfl xfld28x1) ?_)
 refine sp rfl (px_load rfl (fb2.load1 rfl Tryd.isAgg9)) ?_
 refine sp rfl (px_lenS rfl Tryd.underlying9) ?_
 refine sp rfl (px_sub rfl rfl (by omega)) ?_
 refine av rfl rfl (wl_nil (q_n (k8 _ _ ?_)))
 refine sx_sub (Sub.c 1 rfl (.c 2 rfl (.c 4 rfl .nil))) ?_
 refine sx_seq fun K9 k9 => ?_
 refine sx_seq fun K10 k10 => sx_region ?_
 refine mv rfl rfl (sp rfl (px_lt rfl rfl) ?_)
 refine wl_nil (q_n (k10 _ _ ?_))
 refine sx_condP rfl (fun h546 => ?_) (fun h546 => ?_)
 ·
  refine sx_seq fun K11 k11 => sx_region ?_
  refine av rfl rfl (wl_nil (q_n (k11 _ _ ?_)))
  refine sx_retc ?_
  refine q_r (sx_ret1 Tryd.results4 rfl ?_)
  exact ⟨_, rfl, by omega, cb2⟩
 refine sx_skip ?_
 refine q_n (k9 _ _ ?_)
 refine sx_seq fun K12 k12 => sx_region ?_
 refine sp rfl (px_field rfl xfld28x2) ?_
 refine sp rfl (px_load rfl (fb2.loadA (vs := [.bool n1, v1, .int .i64 p1]) (look_lit rfl) Tryd.isAgg26 Tryd.sizeOf26)) ?_
 refine mv rfl rfl ?_
 have f13 := hv10.ext cb2
 refine sx_call rfl rfl Tryd.call9 (c_szDec f13 (by omega) (by omega)) (fun v14 w14 p14 => ?_)
 obtain ⟨r14, rfl, hr14, c14⟩ := p14
 have zw14 := c14.size
 refine av rfl rfl (wl_nil (q_n (k12 _ _ ?_)))
 refine sx_seq fun K15 k15 => ?_
 refine sx_seq fun K16 k16 => sx_region ?_
 refine mv rfl rfl (sp rfl (px_lt rfl rfl) ?_)
 refine wl_nil (q_n (k16 _ _ ?_))
 refine sx_condP rfl (fun h550 => ?_) (fun h550 => ?_)
 ·
  refine sx_seq fun K17 k17 => sx_region ?_
  refine av rfl rfl (wl_nil (q_n (k17 _ _ ?_)))
  refine sx_retc ?_
  refine q_r (sx_ret1 Tryd.results4 rfl ?_)
  exact ⟨_, rfl, by omega, (cb2.t c14)⟩
 refine sx_skip ?_
 refine q_n (k15 _ _ ?_)
 refine sx_seq fun K18 k18 => sx_region ?_
 refine mv rfl rfl (av rfl rfl (wl_nil (q_n (k18 _ _ ?_))))
 refine sx_retc ?_
 refine sx_ret1 Tryd.results4 rfl ?_
 exact ⟨_, rfl, by omega, (cb2.t c14)⟩

theorem c_toIntS {w : World} {va : Value} {lva uva : Nat} {zs : List Int} (hva : Sl w lva uva va (zs)) (h63 : zs.length ≤ 1048576) :
  Ret Tryd.prog 36 [va] w fun v w' => ∃ s, v = s ∧ OwnI w' w.heap.size w'.heap.size s intT (zs) ∧ Chg 0 0 w w' := by
 have hva0 := hva.fit
 refine sx_enter Tryd.func36 rfl Tryd.ntmps36 (nbl rfl) ?_
 refine sx_seq fun K1 k1 => sx_region ?_
 refine av rfl rfl (wl_nil (q_n (k1 _ _ ?_)))
 refine sx_seq fun K2 k2 => sx_region ?_
 refine mv rfl rfl (sp rfl (px_len rfl Tryd.underlying22 hva0) ?_)
 refine sx_make (c := (zs).length) rfl xelt22 (rfl) (rfl) (by omega) (by unfold maxLen; omega) (fun s3 ws3 fs3 cs3 ls3 => ?_)
 have ns3 := fs3.made
 have zws3 := cs3.size
 refine av rfl rfl (wl_nil (q_n (k2 _ _ ?_)))
 refine sx_seq fun K4 k4 => ?_
 refine sx_seq fun K5 k5 => sx_region ?_
 refine av rfl rfl (wl_nil (q_n (k5 _ _ ?_)))
 refine sx_block ?_
 refine sx_loop (fun mm aa w' => ∃ (k : Nat) (os : List Int), Agr 22 [(0, va), (3, s3), (4, .int .i64 ↑k)] aa ∧ Chg w.heap.size ws3.heap.size ws3 w' ∧ Own w' w.heap.size ws3.heap.size s3 3 os.length 1 (os.map (Value.int .i64)) ∧ (mm = zs.length - k) ∧ (k ≤ zs.length) ∧ (os.length = zs.length) ∧ (os.take k = zs.take k)) (_) (fun a ha => ⟨0, List.replicate zs.length 0, ha.sub (Sub.c 0 rfl (.c 3 rfl (.c 4 (look_int (t := 4) rfl (by first | omega | simp)) .nil))), Chg.refl _ _ _, (ns3.mono (by omega) (by omega)), rfl, by omega, by simp, by simp⟩) ?_
 rintro mm aa wl6 ⟨k, os, hAwl6, cwl6, hs_s3, hm, hk, ho, he⟩
 refine (show cw Tryd.prog 22 _ _ _ wl6 from ?_) aa hAwl6
 clear hAwl6
 have zwl6 := cwl6.size
 refine sx_seq fun K7 k7 => ?_
 refine sx_seq fun K8 k8 => sx_region ?_
 refine mv rfl rfl (mv rfl rfl ?_)
 have f9 := hva0.ext cs3
 have f10 := f9.chg cwl6 (by omega)
 refine sp rfl (px_len rfl Tryd.underlying22 f10) ?_
 refine sp rfl (px_lt rfl rfl) ?_
 refine wl_nil (q_n (k8 _ _ ?_))
 refine sx_condP rfl (fun h203 => ?_) (fun h203 => ?_)
 ·
  refine sx_skip ?_
  refine q_n (k7 _ _ ?_)
  refine sx_seq fun K11 k11 => ?_
  refine sx_block ?_
  refine sx_region ?_
  refine mv rfl rfl (mv rfl rfl (mv rfl rfl (mv rfl rfl (sp rfl (px_index1 (j := k) rfl rfl (by omega) Tryd.underlying22 Tryd.sizeOf3 f10 (by omega)) ?_))))
  refine sp rfl (px_load rfl (f10.load1 (at_int (by omega)) Tryd.isAgg3)) ?_
  refine sp rfl (px_index1 (j := k) rfl rfl (by omega) Tryd.underlying22 Tryd.sizeOf3 hs_s3.sv (by omega)) ?_
  refine sx_storeO rfl rfl hs_s3 (by simp only [List.length_map]; omega) Tryd.sizeOf3 rfl (fun w12 sw12 fw12 cw12 => ?_)
  have zw12 := cw12.size
  have nw12 := fw12.set
  refine wl_nil ?_
  refine q_bn (q_n (k11 _ _ ?_))
  refine sx_region ?_
  refine mv rfl rfl (sp rfl (px_add rfl rfl (by omega)) ?_)
  refine av rfl rfl (wl_nil ?_)
  have q13 := Chg.step (l := w.heap.size) (h := ws3.heap.size) cwl6 cw12 (by omega)
  exact fun a ha => ⟨_, by omega, (k + 1), (os.set k (zs.getD k 0)), ha.sub (Sub.c 0 rfl (.c 3 rfl (.c 4 (look_int (t := 4) rfl (by first | omega | simp)) .nil))), q13, (nw12.mono (by omega) (by omega)), rfl, by omega, by simp [ho], take_set_succ he (by omega) (by omega)⟩
 refine sx_exit ?_
 refine q_e (q_e (q_bx (q_n (k4 _ _ ?_))))
 refine sx_seq fun K14 k14 => sx_region ?_
 refine mv rfl rfl (av rfl rfl (wl_nil (q_n (k14 _ _ ?_))))
 refine sx_retc ?_
 refine sx_ret1 Tryd.results36 rfl ?_
 have e1 : k = zs.length := by omega
 rw [e1, List.take_length, List.take_of_length_le (by omega)] at he
 subst he
 have q15 := Chg.step (l := 0) (h := 0) (Chg.zero (l := 0) (h := 0) cs3) cwl6 (by omega)
 exact ⟨_, rfl, Own.mono hs_s3 (by omega) (by omega), q15⟩

theorem c_toSigned {w : World} {n1 : Bool} {v1 : Value} {lv1 uv1 : Nat} {z1 : List Int} (hv1 : Sl w lv1 uv1 v1 (z1)) (bz1 : z1.length ≤ 1048576) :
  Ret Tryd.prog 22 [.agg #[.bool n1, v1]] w fun v w' => ∃ s1, v = .agg #[.bool (n1), s1] ∧ OwnI w' w.heap.size w'.heap.size s1 intT (z1) ∧ Chg 0 0 w w' := by
 have hv10 := hv1.fit
 refine sx_enter Tryd.func22 rfl Tryd.ntmps22 (nbl rfl) ?_
 refine sx_seq fun K1 k1 => sx_region ?_
 refine sx_box [.bool n1, v1] rfl rfl rfl (fun b2 w3 eb2 sb2 fb2 cb2 => ?_)
 have zw3 := cb2.size
 refine sx_alloc [.bool false, (.slice none 0 0)] rfl Tryd.zeroValue31 rfl (fun b4 w5 eb4 sb4 fb4 cb4 => ?_)
 have zw5 := cb4.size
 refine wl_nil (q_n (k1 _ _ ?_))
 refine sx_seq fun K6 k6 => sx_region ?_
 refine sx_alloc [.bool false, (.slice none 0 0)] rfl Tryd.zeroValue31 rfl (fun b7 w8 eb7 sb7 fb7 cb7 => ?_)
 have zw8 := cb7.size
 refine wl_nil (q_n (k6 _ _ ?_))
 refine sx_seq fun K9 k9 => sx_region ?_
 refine sp rfl (px_field rfl xfld24x0) ?_
 have f10 := fb2.ext cb4
 have f11 := f10.ext cb7
 refine sp rfl (px_load rfl (f11.load1 rfl Tryd.isAgg4)) ?_
 refine sp rfl (px_field rfl xfld31x0) ?_
 refine sx_store (vs := [.bool n1]) rfl rfl fb7 rfl Tryd.sizeOf4 (nbl rfl) (o1 rfl) (fun w12 sw12 fw12 cw12 => ?_)
 have zw12 := cw12.size
 have gw12 : Blk w12 b7 [.bool n1, (.slice none 0 0)] 31 := fw12
 refine wl_nil (q_n (k9 _ _ ?_))
 refine sx_seq fun K13 k13 => sx_region ?_
 refine sp rfl (px_field rfl xfld24x1) ?_
 have f14 := f11.chg cw12 (by omega)
 refine sp rfl (px_load rfl (f14.load1 rfl Tryd.isAgg22)) ?_
 have f15 := hv10.ext cb2
 have f16 := f15.ext cb4
 have f17 := f16.ext cb7
 have f18 := f17.chg cw12 (by omega)
 refine sx_call rfl rfl Tryd.call36 (c_toIntS f18 (by omega)) (fun v19 w19 p19 => ?_)
 obtain ⟨s19, rfl, os_19, c19⟩ := p19
 have zw19 := c19.size
 refine sp rfl (px_field rfl xfld31x1) ?_
 have f21 := gw12.ext c19
 refine sx_store (vs := [v19]) rfl rfl f21 (cells_one os_19.one) Tryd.sizeOf22 (nbl rfl) (one_cons os_19.one one_nil) (fun w20 sw20 fw20 cw20 => ?_)
 have zw20 := cw20.size
 have gw20 : Blk w20 b7 [.bool n1, v19] 31 := fw20
 refine wl_nil (q_n (k13 _ _ ?_))
 refine sx_seq fun K22 k22 => sx_region ?_
 refine sp rfl (px_load rfl (gw20.loadA (vs := [.bool n1, v19]) (look_lit rfl) Tryd.isAgg31 Tryd.sizeOf31)) ?_
 have f24 := fb4.ext cb7
 have f25 := f24.chg cw12 (by omega)
 have f27 := (f25.ext c19).chg cw20 (by omega)
 have f28 := os_19.chg cw20 (by omega)
 refine sx_store (vs := [.bool n1, v19]) rfl rfl f27 rfl Tryd.sizeOf31 (nbl rfl) (one_cons rfl (one_cons f28.one one_nil)) (fun w23 sw23 fw23 cw23 => ?_)
 have zw23 := cw23.size
 have gw23 : Blk w23 b4 [.bool n1, v19] 31 := fw23
 refine wl_nil (q_n (k22 _ _ ?_))
 refine sx_retc ?_
 refine sx_ret1 Tryd.results22 ⟨_, rfl, gw23.loadA (vs := [.bool n1, v19]) (look_lit rfl) Tryd.isAgg31 Tryd.sizeOf31⟩ ?_
 have q29 := Chg.step (l := 0) (h := 0) (Chg.zero (l := 0) (h := 0) ((cb2.t cb4).t cb7)) cw12 (by omega)
 have q30 := Chg.step (l := 0) (h := 0) q29 c19 (by omega)
 have q31 := Chg.step (l := 0) (h := 0) q30 cw20 (by omega)
 have q32 := Chg.step (l := 0) (h := 0) q31 cw23 (by omega)
 have f33 := f28.chg cw23 (by omega)
 exact ⟨_, rfl, Own.mono f33 (by omega) (by omega), q32⟩

theorem c_toDec {w : World} {n1 : Bool} {v1 : Value} {lv1 uv1 : Nat} {z1 : List Int} {p1 : Int} (hv1 : Sl w lv1 uv1 v1 (z1)) (bz1 : z1.length ≤ 1048576) :
  Ret Tryd.prog 12 [.agg #[.bool n1, v1, .int .i64 p1]] w fun v w' => ∃ s1, v = .agg #[.bool (n1), s1, .int .i64 (p1)] ∧ OwnI w' w.heap.size w'.heap.size s1 intT (z1) ∧ Chg 0 0 w w' := by
 have hv10 := hv1.fit
 refine sx_enter Tryd.func12 rfl Tryd.ntmps12 (nbl rfl) ?_
 refine sx_seq fun K1 k1 => sx_region ?_
 refine sx_box [.bool n1, v1, .int .i64 p1] rfl rfl rfl (fun b2 w3 eb2 sb2 fb2 cb2 => ?_)
 have zw3 := cb2.size
 refine sx_alloc [.bool false, (.slice none 0 0), .int .i64 0] rfl Tryd.zeroValue33 rfl (fun b4 w5 eb4 sb4 fb4 cb4 => ?_)
 have zw5 := cb4.size
 refine wl_nil (q_n (k1 _ _ ?_))
 refine sx_seq fun K6 k6 => sx_region ?_
 refine sx_alloc [.bool false, (.slice none 0 0), .int .i64 0] rfl Tryd.zeroValue33 rfl (fun b7 w8 eb7 sb7 fb7 cb7 => ?_)
 have zw8 := cb7.size
 refine wl_nil (q_n (k6 _ _ ?_))
 refine sx_seq fun K9 k9 => sx_region ?_
 refine sp rfl (px_field rfl xfld26x0) ?_
 have f10 := fb2.ext cb4
 have f11 := f10.ext cb7
 refine sp rfl (px_load rfl (f11.loadA (vs := [.bool n1, v1]) (look_lit rfl) Tryd.isAgg24 Tryd.sizeOf24)) ?_
 have f12 := hv10.ext cb2
 have f13 := f12.ext cb4
 have f14 := f13.ext cb7
 refine sx_call rfl rfl Tryd.call22 (c_toSigned f14 (by omega)) (fun v15 w15 p15 => ?_)
 obtain ⟨s115, rfl, os1_15, c15⟩ := p15
 have zw15 := c15.size
 refine sp rfl (px_field rfl xfld33x0) ?_
 have f17 := fb7.ext c15
 refine sx_store (vs := [.bool n1, s115]) rfl rfl f17 rfl Tryd.sizeOf31 (nbl rfl) (one_cons rfl (one_cons os1_15.one one_nil)) (fun w16 sw16 fw16 cw16 => ?_)
 have zw16 := cw16.size
 have gw16 : Blk w16 b7 [.bool n1, s115, .int .i64 0] 33 := fw16
 refine wl_nil (q_n (k9 _ _ ?_))
 refine sx_seq fun K18 k18 => sx_region ?_
 refine sp rfl (px_field rfl xfld26x1) ?_
 have f20 := (f11.ext c15).chg cw16 (by omega)
 refine sp rfl (px_load rfl (f20.load1 rfl Tryd.isAgg3)) ?_
 refine sp rfl (px_field rfl xfld33x1) ?_
 refine sx_store (vs := [.int .i64 p1]) rfl rfl gw16 rfl Tryd.sizeOf3 (nbl rfl) (o1 rfl) (fun w21 sw21 fw21 cw21 => ?_)
 have zw21 := cw21.size
 have gw21 : Blk w21 b7 [.bool n1, s115, .int .i64 p1] 33 := fw21
 refine wl_nil (q_n (k18 _ _ ?_))
 refine sx_seq fun K22 k22 => sx_region ?_
 refine sp rfl (px_load rfl (gw21.loadA (vs := [.bool n1, s115, .int .i64 p1]) (look_lit rfl) Tryd.isAgg33 Tryd.sizeOf33)) ?_
 have f24 := fb4.ext cb7
 have f26 := (f24.ext c15).chg cw16 (by omega)
 have f27 := f26.chg cw21 (by omega)
 have f28 := os1_15.chg cw16 (by omega)
 have f29 := f28.chg cw21 (by omega)
 refine sx_store (vs := [.bool n1, s115, .int .i64 p1]) rfl rfl f27 rfl Tryd.sizeOf33 (nbl rfl) (one_cons rfl (one_cons f29.one (o1 rfl))) (fun w23 sw23 fw23 cw23 => ?_)
 have zw23 := cw23.size
 have gw23 : Blk w23 b4 [.bool n1, s115, .int .i64 p1] 33 := fw23
 refine wl_nil (q_n (k22 _ _ ?_))
 refine sx_retc ?_
 refine sx_ret1 Tryd.results12 ⟨_, rfl, gw23.loadA (vs := [.bool n1, s115, .int .i64 p1]) (look_lit rfl) Tryd.isAgg33 Tryd.sizeOf33⟩ ?_
 have q30 := Chg.step (l := 0) (h := 0) (Chg.zero (l := 0) (h := 0) (((cb2.t cb4).t cb7).t c15)) cw16 (by omega)
 have q31 := Chg.step (l := 0) (h := 0) q30 cw21 (by omega)
 have q32 := Chg.step (l := 0) (h := 0) q31 cw23 (by omega)
 have f33 := f29.chg cw23 (by omega)
 exact ⟨_, rfl, Own.mono f33 (by omega) (by omega), q32⟩

theorem c_toRate {w : World} {f1 : ByteArray} {t1 : ByteArray} {n1 : Bool} {v1 : Value} {lv1 uv1 : Nat} {z1 : List Int} {p1 : Int} (hv1 : Sl w lv1 uv1 v1 (z1)) (bz1 : z1.length ≤ 1048576) :
  Ret Tryd.prog 6 [.agg #[.string f1, .string t1, .bool n1, v1, .int .i64 p1]] w fun v w' => ∃ s, v = .agg #[.string (f1), .string (t1), .bool (n1), s, .int .i64 (p1)] ∧ OwnI w' w.heap.size w'.heap.size s intT (z1) ∧ Chg 0 0 w w' := by
 have hv10 := hv1.fit
 refine sx_enter Tryd.func6 rfl Tryd.ntmps6 (nbl rfl) ?_
 refine sx_seq fun K1 k1 => sx_region ?_
 refine sx_box [.string f1, .string t1, .bool n1, v1, .int .i64 p1] rfl rfl rfl (fun b2 w3 eb2 sb2 fb2 cb2 => ?_)
 have zw3 := cb2.size
 refine sx_alloc [.string (⟨#[]⟩), .string (⟨#[]⟩), .bool false, (.slice none 0 0), .int .i64 0] rfl Tryd.zeroValue35 rfl (fun b4 w5 eb4 sb4 fb4 cb4 => ?_)
 have zw5 := cb4.size
 refine wl_nil (q_n (k1 _ _ ?_))
 refine sx_seq fun K6 k6 => sx_region ?_
 refine sx_alloc [.string (⟨#[]⟩), .string (⟨#[]⟩), .bool false, (.slice none 0 0), .int .i64 0] rfl Tryd.zeroValue35 rfl (fun b7 w8 eb7 sb7 fb7 cb7 => ?_)
 have zw8 := cb7.size
 refine wl_nil (q_n (k6 _ _ ?_))
 refine sx_seq fun K9 k9 => sx_region ?_
 refine sp rfl (px_field rfl xfld28x0) ?_
 have f10 := fb2.ext cb4
 have f11 := f10.ext cb7
 refine sp rfl (px_load rfl (f11.load1 rfl Tryd.isAgg9)) ?_
 refine sp rfl (px_field rfl xfld35x0) ?_
 refine sx_store (vs := [.string f1]) rfl rfl fb7 rfl Tryd.sizeOf9 (nbl rfl) (o1 rfl) (fun w12 sw12 fw12 cw12 => ?_)
 have zw12 := cw12.size
 have gw12 : Blk w12 b7 [.string f1, .string (⟨#[]⟩), .bool false, (.slice none 0 0), .int .i64 0] 35 := fw12
 refine wl_nil (q_n (k9 _ _ ?_))
 refine sx_seq fun K13 k13 => sx_region ?_
 refine sp rfl (px_field rfl xfld28x1) ?_
 have f14 := f11.chg cw12 (by omega)
 refine sp rfl (px_load rfl (f14.load1 rfl Tryd.isAgg9)) ?_
 refine sp rfl (px_field rfl xfld35x1) ?_
 refine sx_store (vs := [.string t1]) rfl rfl gw12 rfl Tryd.sizeOf9 (nbl rfl) (o1 rfl) (fun w15 sw15 fw15 cw15 => ?_)
 have zw15 := cw15.size
 have gw15 : Blk w15 b7 [.string f1, .string t1, .bool false, (.slice none 0 0), .int .i64 0] 35 := fw15
 refine wl_nil (q_n (k13 _ _ ?_))
 refine sx_seq fun K16 k16 => sx_region ?_
 refine sp rfl (px_field rfl xfld28x2) ?_
 have f17 := f14.chg cw15 (by omega)
 refine sp rfl (px_load rfl (f17.loadA (vs := [.bool n1, v1, .int .i64 p1]) (look_lit rfl) Tryd.isAgg26 Tryd.sizeOf26)) ?_
 have f18 := hv10.ext cb2
 have f19 := f18.ext cb4
 have f20 := f19.ext cb7
 have f21 := f20.chg cw12 (by omega)
 have f22 := f21.chg cw15 (by omega)
 refine sx_call rfl rfl Tryd.call12 (c_toDec f22 (by omega)) (fun v23 w23 p23 => ?_)
 obtain ⟨s123, rfl, os1_23, c23⟩ := p23
 have zw23 := c23.size
 refine sp rfl (px_field rfl xfld35x2) ?_
 have f25 := gw15.ext c23
 refine sx_store (vs := [.bool n1, s123, .int .i64 p1]) rfl rfl f25 rfl Tryd.sizeOf33 (nbl rfl) (one_cons rfl (one_cons os1_23.one (o1 rfl))) (fun w24 sw24 fw24 cw24 => ?_)
 have zw24 := cw24.size
 have gw24 : Blk w24 b7 [.string f1, .string t1, .bool n1, s123, .int .i64 p1] 35 := fw24
 refine wl_nil (q_n (k16 _ _ ?_))
 refine sx_seq fun K26 k26 => sx_region ?_
 refine sp rfl (px_load rfl (gw24.loadA (vs := [.string f1, .string t1, .bool n1, s123, .int .i64 p1]) (look_lit rfl) Tryd.isAgg35 Tryd.sizeOf35)) ?_
 have f28 := fb4.ext cb7
 have f29 := f28.chg cw12 (by omega)
 have f30 := f29.chg cw15 (by omega)
 have f32 := (f30.ext c23).chg cw24 (by omega)
 have f33 := os1_23.chg cw24 (by omega)
 refine sx_store (vs := [.string f1, .string t1, .bool n1, s123, .int .i64 p1]) rfl rfl f32 rfl Tryd.sizeOf35 (nbl rfl) (one_cons rfl (one_cons rfl (one_cons rfl (one_cons f33.one (o1 rfl))))) (fun w27 sw27 fw27 cw27 => ?_)
 have zw27 := cw27.size
 have gw27 : Blk w27 b4 [.string f1, .string t1, .bool n1, s123, .int .i64 p1] 35 := fw27
 refine wl_nil (q_n (k26 _ _ ?_))
 refine sx_sub (Sub.c 2 rfl .nil) ?_
 refine sx_retc ?_
 refine sx_ret1 Tryd.results6 ⟨_, rfl, gw27.loadA (vs := [.string f1, .string t1, .bool n1, s123, .int .i64 p1]) (look_lit rfl) Tryd.isAgg35 Tryd.sizeOf35⟩ ?_
 have q34 := Chg.step (l := 0) (h := 0) (Chg.zero (l := 0) (h := 0) ((cb2.t cb4).t cb7)) cw12 (by omega)
 have q35 := Chg.step (l := 0) (h := 0) q34 cw15 (by omega)
 have q36 := Chg.step (l := 0) (h := 0) q35 c23 (by omega)
 have q37 := Chg.step (l := 0) (h := 0) q36 cw24 (by omega)
 have q38 := Chg.step (l := 0) (h := 0) q37 cw27 (by omega)
 have f39 := f33.chg cw27 (by omega)
 exact ⟨_, rfl, (Own.mono f39 (by omega) (by omega)), q38⟩

theorem c_l08Table {w : World} :
  Ret Tryd.prog 43 [] w fun v w' => ∃ sl, v = sl ∧ Own w' w.heap.size w'.heap.size sl 54 20 4 (crCells tabS) ∧ Chg 0 0 w w' := by
 refine sx_enter Tryd.func43 rfl Tryd.ntmps43 (nbl rfl) ?_
 refine sx_seq fun K1 k1 => sx_region ?_
 refine av rfl rfl (wl_nil (q_n (k1 _ _ ?_)))
 refine sx_seq fun K2 k2 => sx_region ?_
 refine sp rfl (px_build rfl (xbld54x0x1x2x3 rfl rfl rfl rfl _)) ?_
 refine sp rfl (px_build rfl (xbld54x0x1x2x3 rfl rfl rfl rfl _)) ?_
 refine sp rfl (px_build rfl (xbld54x0x1x2x3 rfl rfl rfl rfl _)) ?_
 refine sp rfl (px_build rfl (xbld54x0x1x2x3 rfl rfl rfl rfl _)) ?_
 refine sp rfl (px_build rfl (xbld54x0x1x2x3 rfl rfl rfl rfl _)) ?_
 refine sp rfl (px_build rfl (xbld54x0x1x2x3 rfl rfl rfl rfl _)) ?_
 refine sp rfl (px_build rfl (xbld54x0x1x2x3 rfl rfl rfl rfl _)) ?_
 refine sp rfl (px_build rfl (xbld54x0x1x2x3 rfl rfl rfl rfl _)) ?_
 refine sp rfl (px_build rfl (xbld54x0x1x2x3 rfl rfl rfl rfl _)) ?_
 refine sp rfl (px_build rfl (xbld54x0x1x2x3 rfl rfl rfl rfl _)) ?_
 refine sp rfl (px_build rfl (xbld54x0x1x2x3 rfl rfl rfl rfl _)) ?_
 refine sp rfl (px_build rfl (xbld54x0x1x2x3 rfl rfl rfl rfl _)) ?_
 refine sp rfl (px_build rfl (xbld54x0x1x2x3 rfl rfl rfl rfl _)) ?_
 refine sp rfl (px_build rfl (xbld54x0x1x2x3 rfl rfl rfl rfl _)) ?_
 refine sp rfl (px_build rfl (xbld54x0x1x2x3 rfl rfl rfl rfl _)) ?_
 refine sp rfl (px_build rfl (xbld54x0x1x2x3 rfl rfl rfl rfl _)) ?_
 refine sp rfl (px_build rfl (xbld54x0x1x2x3 rfl rfl rfl rfl _)) ?_
 refine sp rfl (px_build rfl (xbld54x0x1x2x3 rfl rfl rfl rfl _)) ?_
 refine sp rfl (px_build rfl (xbld54x0x1x2x3 rfl rfl rfl rfl _)) ?_
 refine sp rfl (px_build rfl (xbld54x0x1x2x3 rfl rfl rfl rfl _)) ?_
 refine sx_litG (k := 4) (e := 54) (vs := crCells tabS) rfl rfl ⟨by decide, by decide⟩ (fun w => by kernel_rfl) (fun s3 ws3 ss3 fs3 cs3 => ?_)
 have zws3 := cs3.size
 refine av rfl rfl (wl_nil (q_n (k2 _ _ ?_)))
 refine sx_sub (Sub.c 0 rfl .nil) ?_
 refine sx_retc ?_
 refine sx_ret1 Tryd.results43 rfl ?_
 exact ⟨_, rfl, fs3, cs3⟩

theorem c_l08Find {w : World} {s : ByteArray} :
  Ret Tryd.prog 30 [.string s] w fun v w' => v = .agg #[.string ((curOf s).code), .string ((curOf s).number), .int .i64 ((curOf s).places), .int .i64 ((curOf s).cash)] ∧ Chg 0 0 w w' := by
 refine sx_enter Tryd.func30 rfl Tryd.ntmps30 (nbl rfl) ?_
 refine sx_seq fun K1 k1 => sx_region ?_
 refine sx_alloc [.string (⟨#[]⟩), .string (⟨#[]⟩), .int .i64 0, .int .i64 0] rfl Tryd.zeroValue54 rfl (fun b2 w3 eb2 sb2 fb2 cb2 => ?_)
 have zw3 := cb2.size
 refine wl_nil (q_n (k1 _ _ ?_))
 refine sx_seq fun K4 k4 => ?_
 refine sx_seq fun K5 k5 => sx_region ?_
 refine sx_call rfl rfl Tryd.call43 (c_l08Table) (fun v6 w6 p6 => ?_)
 obtain ⟨sl6, rfl, osl_6, c6⟩ := p6
 have zw6 := c6.size
 refine sp rfl (px_len rfl Tryd.underlying68 osl_6.sv) ?_
 refine mv rfl rfl (wl_nil (q_n (k5 _ _ ?_)))
 refine sx_block ?_
 refine sx_loop (fun mm aa w' => ∃ (k : Nat), Agr 18 [(0, .string s), (2, .pointer (some ⟨b2, 0, none⟩)), (5, v6), (6, .int .i64 20), (7, .int .i64 ↑k)] aa ∧ Chg 0 0 w6 w' ∧ (mm = 20 - k) ∧ (k ≤ 20) ∧ (∀ i, i < k → ¬ (tabS.getD i cr0).code = s)) (20) (fun a ha => ⟨0, ha.sub (Sub.c 0 rfl (.c 2 rfl (.c 5 rfl (.c 6 rfl (.c 7 (look_int (t := 7) rfl (by first | omega | simp)) .nil))))), Chg.refl _ _ _, rfl, by omega, fun i h => by omega⟩) ?_
 rintro mm aa wl7 ⟨k, hAwl7, cwl7, hm, hk, hn⟩
 refine (show cw Tryd.prog 18 _ _ _ wl7 from ?_) aa hAwl7
 clear hAwl7
 have zwl7 := cwl7.size
 refine sx_seq fun K8 k8 => sx_region ?_
 refine sp rfl (px_lt rfl rfl) ?_
 refine wl_nil (q_n (k8 _ _ ?_))
 refine sx_seq fun K9 k9 => ?_
 refine sx_condP rfl (fun h24 => ?_) (fun h24 => ?_)
 ·
  refine sx_skip ?_
  refine q_n (k9 _ _ ?_)
  refine sx_seq fun K10 k10 => ?_
  refine sx_block ?_
  refine sx_seq fun K11 k11 => sx_region ?_
  have f12 := osl_6.ext cwl7
  refine sp rfl (px_indexK (j := k) rfl rfl (by omega) Tryd.underlying68 Tryd.sizeOf54 f12.sv (by omega)) ?_
  refine sp rfl (px_load rfl (f12.sv.loadA (cr_look (l := tabS) (k := k) (by rw [show tabS.length = 20 from rfl]; omega)) Tryd.isAgg54 Tryd.sizeOf54)) ?_
  refine sx_alloc [.string (⟨#[]⟩), .string (⟨#[]⟩), .int .i64 0, .int .i64 0] rfl Tryd.zeroValue54 rfl (fun b13 w14 eb13 sb13 fb13 cb13 => ?_)
  have zw14 := cb13.size
  refine sx_store (vs := [.string ((tabS.getD k cr0).code), .string ((tabS.getD k cr0).number), .int .i64 ((tabS.getD k cr0).places), .int .i64 ((tabS.getD k cr0).cash)]) rfl rfl fb13 rfl Tryd.sizeOf54 (nbl rfl) (one_cons rfl (o3 rfl rfl rfl)) (fun w15 sw15 fw15 cw15 => ?_)
  have zw15 := cw15.size
  have gw15 : Blk w15 b13 [.string ((tabS.getD k cr0).code), .string ((tabS.getD k cr0).number), .int .i64 ((tabS.getD k cr0).places), .int .i64 ((tabS.getD k cr0).cash)] 54 := fw15
  refine wl_nil (q_n (k11 _ _ ?_))
  refine sx_seq fun K16 k16 => sx_region ?_
  refine sp rfl (px_field rfl xfld54x0) ?_
  refine sp rfl (px_load rfl (gw15.load1 rfl Tryd.isAgg9)) ?_
  refine mv rfl rfl (sp rfl (px_eqS rfl rfl) ?_)
  refine wl_nil (q_n (k16 _ _ ?_))
  refine sx_condP rfl (fun h25 => ?_) (fun h25 => ?_)
  ·
   refine sx_seq fun K17 k17 => sx_region ?_
   refine sp rfl (px_load rfl (gw15.loadA (vs := [.string ((tabS.getD k cr0).code), .string ((tabS.getD k cr0).number), .int .i64 ((tabS.getD k cr0).places), .int .i64 ((tabS.getD k cr0).cash)]) (look_lit rfl) Tryd.isAgg54 Tryd.sizeOf54)) ?_
   have f20 := (fb2.ext c6).ext cwl7
   have f21 := f20.ext cb13
   have f22 := f21.chg cw15 (by omega)
   refine sx_store (vs := [.string ((tabS.getD k cr0).code), .string ((tabS.getD k cr0).number), .int .i64 ((tabS.getD k cr0).places), .int .i64 ((tabS.getD k cr0).cash)]) rfl rfl f22 rfl Tryd.sizeOf54 (nbl rfl) (one_cons rfl (o3 rfl rfl rfl)) (fun w18 sw18 fw18 cw18 => ?_)
   have zw18 := cw18.size
   have gw18 : Blk w18 b2 [.string ((tabS.getD k cr0).code), .string ((tabS.getD k cr0).number), .int .i64 ((tabS.getD k cr0).places), .int .i64 ((tabS.getD k cr0).cash)] 54 := fw18
   refine wl_nil (q_n (k17 _ _ ?_))
   refine sx_retc ?_
   refine q_br (q_r (q_r (q_br (q_r (sx_ret1 Tryd.results30 ⟨_, rfl, gw18.loadA (vs := [.string ((tabS.getD k cr0).code), .string ((tabS.getD k cr0).number), .int .i64 ((tabS.getD k cr0).places), .int .i64 ((tabS.getD k cr0).cash)]) (look_lit rfl) Tryd.isAgg54 Tryd.sizeOf54⟩ ?_)))))
   have e := curOf_someS (by rw [show tabS.length = 20 from rfl]; omega) hn h25
   rw [e]
   have q23 := Chg.step (l := 0) (h := 0) (Chg.zero (l := 0) (h := 0) (((cb2.t c6).t cwl7).t cb13)) cw15 (by omega)
   have q24 := Chg.step (l := 0) (h := 0) q23 cw18 (by omega)
   exact ⟨rfl, q24⟩
  refine sx_skip ?_
  refine q_bn (q_n (k10 _ _ ?_))
  refine sx_region ?_
  refine sp rfl (px_add rfl rfl (by omega)) ?_
  refine mv rfl rfl (wl_nil ?_)
  have q25 := Chg.step (l := 0) (h := 0) (Chg.zero (l := 0) (h := 0) (cwl7.t cb13)) cw15 (by omega)
  exact fun a ha => ⟨_, by omega, (k + 1), ha.sub (Sub.c 0 rfl (.c 2 rfl (.c 5 rfl (.c 6 rfl (.c 7 (look_int (t := 7) rfl (by first | omega | simp)) .nil))))), q25, rfl, by omega, upto_succ hn h25⟩
 refine sx_exit ?_
 refine q_e (q_e (q_bx (q_n (k4 _ _ ?_))))
 refine sx_seq fun K26 k26 => sx_region ?_
 refine sp rfl (px_build rfl (xbld54x  _)) ?_
 have f29 := (fb2.ext c6).ext cwl7
 refine sx_store (vs := [.string (⟨#[]⟩), .string (⟨#[]⟩), .int .i64 0, .int .i64 0]) rfl rfl f29 rfl Tryd.sizeOf54 (nbl rfl) (one_cons rfl (o3 rfl rfl rfl)) (fun w27 sw27 fw27 cw27 => ?_)
 have zw27 := cw27.size
 have gw27 : Blk w27 b2 [.string (⟨#[]⟩), .string (⟨#[]⟩), .int .i64 0, .int .i64 0] 54 := fw27
 refine wl_nil (q_n (k26 _ _ ?_))
 refine sx_retc ?_
 refine sx_ret1 Tryd.results30 ⟨_, rfl, gw27.loadA (vs := [.string (⟨#[]⟩), .string (⟨#[]⟩), .int .i64 0, .int .i64 0]) (look_lit rfl) Tryd.isAgg54 Tryd.sizeOf54⟩ ?_
 have e := curOf_noneS (s := s) (fun i hi => hn i (by rw [show tabS.length = 20 from rfl] at hi; omega))
 rw [e]
 have q30 := Chg.step (l := 0) (h := 0) (Chg.zero (l := 0) (h := 0) ((cb2.t c6).t cwl7)) cw27 (by omega)
 exact ⟨rfl, q30⟩

theorem c_sCurKnown {w : World} {s : ByteArray} :
  Ret Tryd.prog 17 [.string s] w fun v w' => v = .bool (decide (Known s)) ∧ Chg 0 0 w w' := by
 refine sx_enter Tryd.func17 rfl Tryd.ntmps17 (nbl rfl) ?_
 refine sx_seq fun K1 k1 => sx_region ?_
 refine av rfl rfl (wl_nil (q_n (k1 _ _ ?_)))
 refine sx_seq fun K2 k2 => sx_region ?_
 refine mv rfl rfl (sx_call rfl rfl Tryd.call30 (c_l08Find) (fun v3 w3 p3 => ?_))
 obtain ⟨rfl, c3⟩ := p3
 have zw3 := c3.size
 refine sp rfl (px_fieldv rfl (xfv54x0 _)) ?_
 refine sp rfl (px_neS rfl rfl) ?_
 refine av rfl rfl (wl_nil (q_n (k2 _ _ ?_)))
 refine sx_retc ?_
 refine sx_ret1 Tryd.results17 rfl ?_
 exact ⟨bIff (known_iff s).symm, c3⟩

theorem c_l01In {w : World} {n : Int} {lo : Int} {hi : Int} :
  Ret Tryd.prog 32 [.int .i64 n, .int .i64 lo, .int .i64 hi] w fun v w' => v = .bool (decide (lo ≤ n ∧ n ≤ hi)) ∧ Chg 0 0 w w' := by
 refine sx_enter Tryd.func32 rfl Tryd.ntmps32 (nbl rfl) ?_
 refine sx_seq fun K1 k1 => sx_region ?_
 refine av rfl rfl (wl_nil (q_n (k1 _ _ ?_)))
 refine sx_seq fun K2 k2 => sx_region ?_
 refine mv rfl rfl (mv rfl rfl (sp rfl (px_ge rfl rfl) ?_))
 refine mv rfl rfl ?_
 refine sx_tmpP (t := 10) rfl (fun h5 => ?_) (fun h5 => ?_)
 ·
  refine sx_guardT rfl rfl rfl ?_
  refine mv rfl rfl ?_
  refine sx_guardT rfl rfl rfl ?_
  refine mv rfl rfl ?_
  refine sx_guardT rfl rfl rfl ?_
  refine sp rfl (px_le rfl rfl) ?_
  refine sp rfl (px_pick rfl rfl) ?_
  refine av rfl rfl (wl_nil (q_n (k2 _ _ ?_)))
  refine sx_retc ?_
  refine sx_ret1 Tryd.results32 rfl ?_
  exact ⟨(by first | exact bIff (by omega) | exact bFalse (by omega) | exact bTrue (by omega)), (Chg.refl 0 0 _)⟩
 refine sx_guardF rfl rfl rfl rfl rfl rfl ?_
 refine sx_guardF rfl rfl rfl rfl rfl rfl ?_
 refine sx_guardF rfl rfl rfl rfl rfl rfl ?_
 refine sp rfl (px_pick rfl rfl) ?_
 refine av rfl rfl (wl_nil (q_n (k2 _ _ ?_)))
 refine sx_retc ?_
 refine sx_ret1 Tryd.results32 rfl ?_
 exact ⟨(by first | exact bIff (by omega) | exact bFalse (by omega) | exact bTrue (by omega)), (Chg.refl 0 0 _)⟩

theorem c_sNatOk {w : World} {va : Value} {lva uva : Nat} {zs : List Int} (hva : Sl w lva uva va (zs)) (h63 : zs.length ≤ 4611686018427387904) :
  Ret Tryd.prog 34 [va] w fun v w' => v = .bool (decide (NOk zs)) ∧ Chg 0 0 w w' := by
 have hva0 := hva.fit
 refine sx_enter Tryd.func34 rfl Tryd.ntmps34 (nbl rfl) ?_
 refine sx_seq fun K1 k1 => sx_region ?_
 refine av rfl rfl (wl_nil (q_n (k1 _ _ ?_)))
 refine sx_seq fun K2 k2 => ?_
 refine sx_seq fun K3 k3 => sx_region ?_
 refine mv rfl rfl (sp rfl (px_len rfl Tryd.underlying22 hva0) ?_)
 refine mv rfl rfl (wl_nil (q_n (k3 _ _ ?_)))
 refine sx_block ?_
 refine sx_loop (fun mm aa w' => ∃ (k : Nat), Agr 32 [(0, va), (5, va), (6, .int .i64 ↑zs.length), (7, .int .i64 ↑k)] aa ∧ Chg 0 0 w w' ∧ (mm = zs.length - k) ∧ (k ≤ zs.length) ∧ (∀ i, i < k → 0 ≤ zs.getD i 0 ∧ zs.getD i 0 < 1000000000)) (_) (fun a ha => ⟨0, ha.sub (Sub.c 0 rfl (.c 5 rfl (.c 6 (look_int (t := 6) rfl (by first | omega | simp)) (.c 7 (look_int (t := 7) rfl (by first | omega | simp)) .nil)))), Chg.refl _ _ _, rfl, by omega, fun i h => by omega⟩) ?_
 rintro mm aa wl4 ⟨k, hAwl4, cwl4, hm, hk, hall⟩
 refine (show cw Tryd.prog 32 _ _ _ wl4 from ?_) aa hAwl4
 clear hAwl4
 have zwl4 := cwl4.size
 refine sx_seq fun K5 k5 => sx_region ?_
 refine sp rfl (px_lt rfl rfl) ?_
 refine wl_nil (q_n (k5 _ _ ?_))
 refine sx_seq fun K6 k6 => ?_
 refine sx_condP rfl (fun h7 => ?_) (fun h7 => ?_)
 ·
  refine sx_skip ?_
  refine q_n (k6 _ _ ?_)
  refine sx_seq fun K7 k7 => ?_
  refine sx_block ?_
  refine sx_seq fun K8 k8 => sx_region ?_
  have f9 := hva0.ext cwl4
  refine sp rfl (px_index1 (j := k) rfl rfl (by omega) Tryd.underlying22 Tryd.sizeOf3 f9 (by omega)) ?_
  refine sp rfl (px_load rfl (f9.load1 (at_int (by omega)) Tryd.isAgg3)) ?_
  refine av rfl rfl (wl_nil (q_n (k8 _ _ ?_)))
  refine sx_seq fun K10 k10 => sx_region ?_
  refine mv rfl rfl (sx_call rfl rfl Tryd.call32 (c_l01In) (fun v11 w11 p11 => ?_))
  obtain ⟨rfl, c11⟩ := p11
  have zw11 := c11.size
  refine sp rfl (px_notP rfl) ?_
  refine wl_nil (q_n (k10 _ _ ?_))
  refine sx_condP rfl (fun h8 => ?_) (fun h8 => ?_)
  ·
   refine sx_seq fun K12 k12 => sx_region ?_
   refine av rfl rfl (wl_nil (q_n (k12 _ _ ?_)))
   refine sx_retc ?_
   refine q_br (q_r (q_r (q_br (q_r (sx_ret1 Tryd.results34 rfl ?_)))))
   exact ⟨bFalse (fun h => by have h1 := h.1.getD k; omega), (cwl4.t c11)⟩
  refine sx_skip ?_
  refine q_bn (q_n (k7 _ _ ?_))
  refine sx_region ?_
  refine sp rfl (px_add rfl rfl (by omega)) ?_
  refine mv rfl rfl (wl_nil ?_)
  exact fun a ha => ⟨_, by omega, (k + 1), ha.sub (Sub.c 0 rfl (.c 5 rfl (.c 6 rfl (.c 7 (look_int (t := 7) rfl (by first | omega | simp)) .nil)))), (cwl4.t c11), rfl, by omega, lm_succ hall (by omega)⟩
 refine sx_exit ?_
 refine q_e (q_e (q_bx (q_n (k2 _ _ ?_))))
 refine sx_seq fun K13 k13 => ?_
 have ek : k = zs.length := by omega
 have hz : Lm zs := lm_mem (by rw [← ek]; exact hall)
 refine sx_region ?_
 refine mv rfl rfl ?_
 have f14 := hva0.ext cwl4
 refine sp rfl (px_len rfl Tryd.underlying22 f14) ?_
 refine sp rfl (px_le rfl rfl) ?_
 refine mv rfl rfl ?_
 refine sx_tmpP (t := 18) rfl (fun h12 => ?_) (fun h12 => ?_)
 ·
  refine sx_guardT rfl rfl rfl ?_
  refine mv rfl rfl ?_
  refine sx_guardT rfl rfl rfl ?_
  refine sp rfl (px_len rfl Tryd.underlying22 f14) ?_
  refine sx_guardT rfl rfl rfl ?_
  refine sp rfl (px_eq rfl rfl) ?_
  refine sx_guardT rfl rfl rfl ?_
  refine mv rfl rfl ?_
  refine sx_tmpP (t := 22) rfl (fun h12x1 => ?_) (fun h12x1 => ?_)
  ·
   refine sx_guardF rfl rfl rfl rfl rfl rfl ?_
   refine sx_guardF rfl rfl rfl rfl rfl rfl ?_
   refine sx_guardF rfl rfl rfl rfl rfl rfl ?_
   refine sx_guardF rfl rfl rfl rfl rfl rfl ?_
   refine sx_guardF rfl rfl rfl rfl rfl rfl ?_
   refine sx_guardF rfl rfl rfl rfl rfl rfl ?_
   refine sx_guardF rfl rfl rfl rfl rfl rfl ?_
   refine sx_guardT rfl rfl rfl ?_
   refine sp rfl (px_pick rfl rfl) ?_
   refine sp rfl (px_pick rfl rfl) ?_
   refine av rfl rfl (wl_nil (q_n (k13 _ _ ?_)))
   refine sx_sub (Sub.c 2 rfl .nil) ?_
   refine sx_retc ?_
   refine sx_ret1 Tryd.results34 rfl ?_
   exact ⟨(by first | exact bFalse (fun h => by have h1 := h.2.1; omega) | exact bTrue (NOk_mk hz (by omega) (.inl (by omega))) | exact bIff (NOk_iff hz (by omega) (by omega))), cwl4⟩
  refine sx_guardT rfl rfl rfl ?_
  refine mv rfl rfl ?_
  refine sx_guardT rfl rfl rfl ?_
  refine mv rfl rfl ?_
  refine sx_guardT rfl rfl rfl ?_
  refine sp rfl (px_len rfl Tryd.underlying22 f14) ?_
  refine sx_guardT rfl rfl rfl ?_
  refine sp rfl (px_sub rfl rfl (by omega)) ?_
  refine sx_guardT rfl rfl rfl ?_
  refine sp rfl (px_index1 (j := (zs.length - 1)) rfl rfl (by omega) Tryd.underlying22 Tryd.sizeOf3 f14 (by omega)) ?_
  refine sx_guardT rfl rfl rfl ?_
  refine sp rfl (px_load rfl (f14.load1 (at_int (by omega)) Tryd.isAgg3)) ?_
  refine sx_guardT rfl rfl rfl ?_
  refine sp rfl (px_ne rfl rfl) ?_
  refine sx_guardT rfl rfl rfl ?_
  refine sp rfl (px_pick rfl rfl) ?_
  refine sp rfl (px_pick rfl rfl) ?_
  refine av rfl rfl (wl_nil (q_n (k13 _ _ ?_)))
  refine sx_sub (Sub.c 2 rfl .nil) ?_
  refine sx_retc ?_
  refine sx_ret1 Tryd.results34 rfl ?_
  exact ⟨(by first | exact bFalse (fun h => by have h1 := h.2.1; omega) | exact bTrue (NOk_mk hz (by omega) (.inl (by omega))) | exact bIff (NOk_iff hz (by omega) (by omega))), cwl4⟩
 refine sx_guardF rfl rfl rfl rfl rfl rfl ?_
 refine sx_guardF rfl rfl rfl rfl rfl rfl ?_
 refine sx_guardF rfl rfl rfl rfl rfl rfl ?_
 refine sx_guardF rfl rfl rfl rfl rfl rfl ?_
 refine sx_guardFU rfl rfl rfl rfl rfl ?_
 refine sx_guardFU rfl rfl rfl rfl rfl ?_
 refine sx_guardFU rfl rfl rfl rfl rfl ?_
 refine sx_guardFU rfl rfl rfl rfl rfl ?_
 refine sx_guardFU rfl rfl rfl rfl rfl ?_
 refine sx_guardFU rfl rfl rfl rfl rfl ?_
 refine sx_guardFU rfl rfl rfl rfl rfl ?_
 refine sx_guardF rfl rfl rfl rfl rfl rfl ?_
 refine sp rfl (px_pick rfl rfl) ?_
 refine av rfl rfl (wl_nil (q_n (k13 _ _ ?_)))
 refine sx_sub (Sub.c 2 rfl .nil) ?_
 refine sx_retc ?_
 refine sx_ret1 Tryd.results34 rfl ?_
 exact ⟨(by first | exact bFalse (fun h => by have h1 := h.2.1; omega) | exact bTrue (NOk_mk hz (by omega) (.inl (by omega))) | exact bIff (NOk_iff hz (by omega) (by omega))), cwl4⟩

theorem c_sIntOk {w : World} {n1 : Bool} {v1 : Value} {lv1 uv1 : Nat} {z1 : List Int} (hv1 : Sl w lv1 uv1 v1 (z1)) (h63 : z1.length ≤ 4611686018427387904) :
  Ret Tryd.prog 31 [.agg #[.bool n1, v1]] w fun v w' => v = .bool (decide (IOk n1 z1)) ∧ Chg 0 0 w w' := by
 have hv10 := hv1.fit
 refine sx_enter Tryd.func31 rfl Tryd.ntmps31 (nbl rfl) ?_
 refine sx_seq fun K1 k1 => sx_region ?_
 refine sx_box [.bool n1, v1] rfl rfl rfl (fun b2 w3 eb2 sb2 fb2 cb2 => ?_)
 have zw3 := cb2.size
 refine av rfl rfl (wl_nil (q_n (k1 _ _ ?_)))
 refine sx_seq fun K4 k4 => sx_region ?_
 refine sp rfl (px_field rfl xfld31x1) ?_
 refine sp rfl (px_load rfl (fb2.load1 rfl Tryd.isAgg22)) ?_
 have f5 := hv10.ext cb2
 refine sx_call rfl rfl Tryd.call34 (c_sNatOk f5 (by omega)) (fun v6 w6 p6 => ?_)
 obtain ⟨rfl, c6⟩ := p6
 have zw6 := c6.size
 refine mv rfl rfl ?_
 refine sx_tmpP (t := 6) rfl (fun h6 => ?_) (fun h6 => ?_)
 ·
  refine sx_guardT rfl rfl rfl ?_
  refine sp rfl (px_field rfl xfld31x0) ?_
  refine sx_guardT rfl rfl rfl ?_
  have f7 := fb2.ext c6
  refine sp rfl (px_load rfl (f7.load1 rfl Tryd.isAgg4)) ?_
  refine sx_guardT rfl rfl rfl ?_
  refine sp rfl (px_not rfl) ?_
  refine sx_guardT rfl rfl rfl ?_
  refine mv rfl rfl ?_
  refine sx_tmpB (t := 10) rfl (fun h6x1 => ?_) (fun h6x1 => ?_)
  ·
   refine sx_guardF rfl rfl rfl rfl rfl rfl ?_
   refine sx_guardF rfl rfl rfl rfl rfl rfl ?_
   refine sx_guardF rfl rfl rfl rfl rfl rfl ?_
   refine sx_guardF rfl rfl rfl rfl rfl rfl ?_
   refine sx_guardT rfl rfl rfl ?_
   refine sp rfl (px_pick rfl rfl) ?_
   refine sp rfl (px_pick rfl rfl) ?_
   refine av rfl rfl (wl_nil (q_n (k4 _ _ ?_)))
   refine sx_sub (Sub.c 2 rfl .nil) ?_
   refine sx_retc ?_
   refine sx_ret1 Tryd.results31 rfl ?_
   exact ⟨(by first | exact bTrue (by grind [IOk]) | exact bFalse (by grind [IOk]) | exact bIff (by grind [IOk])), (cb2.t c6)⟩
  refine sx_guardT rfl rfl rfl ?_
  refine sp rfl (px_field rfl xfld31x1) ?_
  refine sx_guardT rfl rfl rfl ?_
  refine sp rfl (px_load rfl (f7.load1 rfl Tryd.isAgg22)) ?_
  refine sx_guardT rfl rfl rfl ?_
  have f8 := f5.ext c6
  refine sp rfl (px_len rfl Tryd.underlying22 f8) ?_
  refine sx_guardT rfl rfl rfl ?_
  refine sp rfl (px_gt rfl rfl) ?_
  refine sx_guardT rfl rfl rfl ?_
  refine sp rfl (px_pick rfl rfl) ?_
  refine sp rfl (px_pick rfl rfl) ?_
  refine av rfl rfl (wl_nil (q_n (k4 _ _ ?_)))
  refine sx_sub (Sub.c 2 rfl .nil) ?_
  refine sx_retc ?_
  refine sx_ret1 Tryd.results31 rfl ?_
  exact ⟨(by first | exact bTrue (by grind [IOk]) | exact bFalse (by grind [IOk]) | exact bIff (by grind [IOk])), (cb2.t c6)⟩
 refine sx_guardF rfl rfl rfl rfl rfl rfl ?_
 refine sx_guardF rfl rfl rfl rfl rfl rfl ?_
 refine sx_guardF rfl rfl rfl rfl rfl rfl ?_
 refine sx_guardF rfl rfl rfl rfl rfl rfl ?_
 refine sx_guardFU rfl rfl rfl rfl rfl ?_
 refine sx_guardFU rfl rfl rfl rfl rfl ?_
 refine sx_guardFU rfl rfl rfl rfl rfl ?_
 refine sx_guardFU rfl rfl rfl rfl rfl ?_
 refine sx_guardF rfl rfl rfl rfl rfl rfl ?_
 refine sp rfl (px_pick rfl rfl) ?_
 refine av rfl rfl (wl_nil (q_n (k4 _ _ ?_)))
 refine sx_sub (Sub.c 2 rfl .nil) ?_
 refine sx_retc ?_
 refine sx_ret1 Tryd.results31 rfl ?_
 exact ⟨(by first | exact bTrue (by grind [IOk]) | exact bFalse (by grind [IOk]) | exact bIff (by grind [IOk])), (cb2.t c6)⟩

theorem c_sDecOk {w : World} {n1 : Bool} {v1 : Value} {lv1 uv1 : Nat} {z1 : List Int} {p1 : Int} (hv1 : Sl w lv1 uv1 v1 (z1)) (h63 : z1.length ≤ 4611686018427387904) :
  Ret Tryd.prog 18 [.agg #[.bool n1, v1, .int .i64 p1]] w fun v w' => v = .bool (decide (DOk n1 z1 p1)) ∧ Chg 0 0 w w' := by
 have hv10 := hv1.fit
 refine sx_enter Tryd.func18 rfl Tryd.ntmps18 (nbl rfl) ?_
 refine sx_seq fun K1 k1 => sx_region ?_
 refine sx_box [.bool n1, v1, .int .i64 p1] rfl rfl rfl (fun b2 w3 eb2 sb2 fb2 cb2 => ?_)
 have zw3 := cb2.size
 refine av rfl rfl (wl_nil (q_n (k1 _ _ ?_)))
 refine sx_seq fun K4 k4 => sx_region ?_
 refine sp rfl (px_field rfl xfld33x0) ?_
 refine sp rfl (px_load rfl (fb2.loadA (vs := [.bool n1, v1]) (look_lit rfl) Tryd.isAgg31 Tryd.sizeOf31)) ?_
 have f5 := hv10.ext cb2
 refine sx_call rfl rfl Tryd.call31 (c_sIntOk f5 (by omega)) (fun v6 w6 p6 => ?_)
 obtain ⟨rfl, c6⟩ := p6
 have zw6 := c6.size
 refine mv rfl rfl ?_
 refine sx_tmpP (t := 6) rfl (fun h7 => ?_) (fun h7 => ?_)
 ·
  refine sx_guardT rfl rfl rfl ?_
  refine sp rfl (px_field rfl xfld33x0) ?_
  refine sx_guardT rfl rfl rfl ?_
  refine sp rfl (px_field rfl xfld31x1) ?_
  refine sx_guardT rfl rfl rfl ?_
  have f7 := fb2.ext c6
  refine sp rfl (px_load rfl (f7.load1 rfl Tryd.isAgg22)) ?_
  refine sx_guardT rfl rfl rfl ?_
  have f8 := f5.ext c6
  refine sp rfl (px_len rfl Tryd.underlying22 f8) ?_
  refine sx_guardT rfl rfl rfl ?_
  refine sp rfl (px_le rfl rfl) ?_
  refine sp rfl (px_pick rfl rfl) ?_
  refine mv rfl rfl ?_
  refine sx_tmpP (t := 13) rfl (fun h7x1 => ?_) (fun h7x1 => ?_)
  ·
   refine sx_guardT rfl rfl rfl ?_
   refine sp rfl (px_field rfl xfld33x1) ?_
   refine sx_guardT rfl rfl rfl ?_
   refine sp rfl (px_load rfl (f7.load1 rfl Tryd.isAgg3)) ?_
   refine sx_guardT rfl rfl rfl ?_
   refine sx_call rfl rfl Tryd.call32 (c_l01In) (fun v9 w9 p9 => ?_)
   obtain ⟨rfl, c9⟩ := p9
   have zw9 := c9.size
   refine sp rfl (px_pick rfl rfl) ?_
   refine av rfl rfl (wl_nil (q_n (k4 _ _ ?_)))
   refine sx_sub (Sub.c 2 rfl .nil) ?_
   refine sx_retc ?_
   refine sx_ret1 Tryd.results18 rfl ?_
   exact ⟨(by first | exact bTrue (by grind [DOk]) | exact bFalse (by grind [DOk]) | exact bIff (by grind [DOk])), ((cb2.t c6).t c9)⟩
  refine sx_guardF rfl rfl rfl rfl rfl rfl ?_
  refine sx_guardF rfl rfl rfl rfl rfl rfl ?_
  refine sx_guardF rfl rfl rfl rfl rfl rfl ?_
  refine sp rfl (px_pick rfl rfl) ?_
  refine av rfl rfl (wl_nil (q_n (k4 _ _ ?_)))
  refine sx_sub (Sub.c 2 rfl .nil) ?_
  refine sx_retc ?_
  refine sx_ret1 Tryd.results18 rfl ?_
  exact ⟨(by first | exact bTrue (by grind [DOk]) | exact bFalse (by grind [DOk]) | exact bIff (by grind [DOk])), (cb2.t c6)⟩
 refine sx_guardF rfl rfl rfl rfl rfl rfl ?_
 refine sx_guardF rfl rfl rfl rfl rfl rfl ?_
 refine sx_guardF rfl rfl rfl rfl rfl rfl ?_
 refine sx_guardF rfl rfl rfl rfl rfl rfl ?_
 refine sx_guardF rfl rfl rfl rfl rfl rfl ?_
 refine sp rfl (px_pick rfl rfl) ?_
 refine mv rfl rfl ?_
 refine sx_guardF rfl rfl rfl rfl rfl rfl ?_
 refine sx_guardF rfl rfl rfl rfl rfl rfl ?_
 refine sx_guardF rfl rfl rfl rfl rfl rfl ?_
 refine sp rfl (px_pick rfl rfl) ?_
 refine av rfl rfl (wl_nil (q_n (k4 _ _ ?_)))
 refine sx_sub (Sub.c 2 rfl .nil) ?_
 refine sx_retc ?_
 refine sx_ret1 Tryd.results18 rfl ?_
 exact ⟨(by first | exact bTrue (by grind [DOk]) | exact bFalse (by grind [DOk]) | exact bIff (by grind [DOk])), (cb2.t c6)⟩

theorem c_l02Cmp {w : World} {va : Value} {lva uva : Nat} {zs : List Int} {vb : Value} {lvb uvb : Nat} {ys : List Int} (hva : Sl w lva uva va (zs)) (hvb : Sl w lvb uvb vb (ys)) (h63 : zs.length ≤ 4611686018427387904 ∧ ys.length ≤ 4611686018427387904) :
  Ret Tryd.prog 44 [va, vb] w fun v w' => v = .int .i64 (cmpL zs ys) ∧ Chg 0 0 w w' := by
 have hva0 := hva.fit
 have hvb0 := hvb.fit
 have zs0 : zs.drop zs.length = [] := by simp
 have ys0 : ys.drop ys.length = [] := by simp
 refine sx_enter Tryd.func44 rfl Tryd.ntmps44 (nbl rfl) ?_
 refine sx_seq fun K1 k1 => sx_region ?_
 refine av rfl rfl (wl_nil (q_n (k1 _ _ ?_)))
 refine sx_seq fun K2 k2 => ?_
 refine sx_seq fun K3 k3 => sx_region ?_
 refine mv rfl rfl (sp rfl (px_len rfl Tryd.underlying22 hva0) ?_)
 refine mv rfl rfl (sp rfl (px_len rfl Tryd.underlying22 hvb0) ?_)
 refine sp rfl (px_ne rfl rfl) ?_
 refine wl_nil (q_n (k3 _ _ ?_))
 refine sx_condP rfl (fun h54 => ?_) (fun h54 => ?_)
 ·
  refine sx_seq fun K4 k4 => ?_
  refine sx_seq fun K5 k5 => sx_region ?_
  refine mv rfl rfl (sp rfl (px_len rfl Tryd.underlying22 hva0) ?_)
  refine mv rfl rfl (sp rfl (px_len rfl Tryd.underlying22 hvb0) ?_)
  refine sp rfl (px_lt rfl rfl) ?_
  refine wl_nil (q_n (k5 _ _ ?_))
  refine sx_condP rfl (fun h55 => ?_) (fun h55 => ?_)
  ·
   refine sx_seq fun K6 k6 => sx_region ?_
   refine av rfl rfl (wl_nil (q_n (k6 _ _ ?_)))
   refine sx_retc ?_
   refine q_r (q_r (sx_ret1 Tryd.results44 rfl ?_))
   exact ⟨iEq (cmpL_short (by omega)).symm, (Chg.refl 0 0 _)⟩
  refine sx_skip ?_
  refine q_n (k4 _ _ ?_)
  refine sx_seq fun K7 k7 => sx_region ?_
  refine av rfl rfl (wl_nil (q_n (k7 _ _ ?_)))
  refine sx_retc ?_
  refine q_r (sx_ret1 Tryd.results44 rfl ?_)
  exact ⟨iEq (cmpL_long (by omega)).symm, (Chg.refl 0 0 _)⟩
 refine sx_skip ?_
 refine q_n (k2 _ _ ?_)
 refine sx_seq fun K8 k8 => ?_
 refine sx_seq fun K9 k9 => sx_region ?_
 refine mv rfl rfl (sp rfl (px_len rfl Tryd.underlying22 hva0) ?_)
 refine sp rfl (px_sub rfl rfl (by omega)) ?_
 refine av rfl rfl (wl_nil (q_n (k9 _ _ ?_)))
 refine sx_block ?_
 have e00 : zs.length = ys.length := by omega
 have he0 : zs.drop zs.length = ys.drop zs.length := by rw [zs0, e00, ys0]
 refine sx_loop (fun mm aa w' => ∃ (k : Nat), Agr 41 [(0, va), (1, vb), (5, .int .i64 (↑k - 1))] aa ∧ Chg 0 0 w w' ∧ (mm = k) ∧ (k ≤ zs.length) ∧ (zs.drop k = ys.drop k)) (_) (fun a ha => ⟨zs.length, ha.sub (Sub.c 0 rfl (.c 1 rfl (.c 5 (look_int (t := 5) rfl (by first | omega | simp)) .nil))), Chg.refl _ _ _, rfl, by omega, he0⟩) ?_
 rintro mm aa wl10 ⟨k, hAwl10, cwl10, hm, hk, he⟩
 refine (show cw Tryd.prog 41 _ _ _ wl10 from ?_) aa hAwl10
 clear hAwl10
 have zwl10 := cwl10.size
 have hl : zs.length = ys.length := by omega
 refine sx_seq fun K11 k11 => ?_
 refine sx_seq fun K12 k12 => sx_region ?_
 refine mv rfl rfl (sp rfl (px_ge rfl rfl) ?_)
 refine wl_nil (q_n (k12 _ _ ?_))
 refine sx_condP rfl (fun h60 => ?_) (fun h60 => ?_)
 ·
  refine sx_skip ?_
  refine q_n (k11 _ _ ?_)
  refine sx_seq fun K13 k13 => ?_
  refine sx_block ?_
  refine sx_seq fun K14 k14 => ?_
  refine sx_seq fun K15 k15 => ?_
  have f16 := hva0.ext cwl10
  have f17 := hvb0.ext cwl10
  refine dx_region (fun w' => Chg 0 0 wl10 w') (by kernel_rfl) (Chg.zero (Chg.drew _)) ?_
  have d18 := Chg.drew wl10
  have s18 : Chg 0 0 wl10 (World.drew wl10) := Chg.zero (Chg.drew _)
  have y18 : (World.drew wl10).heap.size = wl10.heap.size := rfl
  generalize World.drew wl10 = w18 at *
  have zw18 := d18.size
  refine dt 0 rfl rfl rfl rfl s18 (fun _ hS => px_move rfl) ?_
  refine dt 1 rfl rfl rfl rfl s18 (fun _ hS => px_move rfl) ?_
  refine dt 2 rfl rfl rfl rfl s18 (fun _ hS => px_index1 (j := (k - 1)) rfl rfl (by omega) Tryd.underlying22 Tryd.sizeOf3 ((f16).chg hS (by omega)) (by omega)) ?_
  refine dt 3 rfl rfl rfl rfl s18 (fun _ hS => px_load rfl (((f16).chg hS (by omega)).load1 (at_int (by omega)) Tryd.isAgg3)) ?_
  refine dt 4 rfl rfl rfl rfl s18 (fun _ hS => px_move rfl) ?_
  refine dt 5 rfl rfl rfl rfl s18 (fun _ hS => px_move rfl) ?_
  refine dt 6 rfl rfl rfl rfl s18 (fun _ hS => px_index1 (j := (k - 1)) rfl rfl (by omega) Tryd.underlying22 Tryd.sizeOf3 ((f17).chg hS (by omega)) (by omega)) ?_
  refine dt 7 rfl rfl rfl rfl s18 (fun _ hS => px_load rfl (((f17).chg hS (by omega)).load1 (at_int (by omega)) Tryd.isAgg3)) ?_
  refine dt 8 rfl rfl rfl rfl s18 (fun _ hS => px_lt rfl rfl) ?_
  refine dx_done (by kernel_rfl) ?_
  refine q_n (k15 _ _ ?_)
  refine sx_condP rfl (fun h61 => ?_) (fun h61 => ?_)
  ·
   refine sx_seq fun K19 k19 => sx_region ?_
   refine av rfl rfl (wl_nil (q_n (k19 _ _ ?_)))
   refine sx_sub (Sub.c 0 rfl (.c 1 rfl (.c 4 rfl (.c 5 rfl .nil)))) ?_
   refine sx_retc ?_
   refine q_r (q_br (q_r (q_r (q_br (q_r (sx_ret1 Tryd.results44 rfl ?_))))))
   have hlt := cmpL_lt hl (k := k - 1) (by omega) (by rw [Nat.sub_add_cancel (by omega)]; exact he) (h61)
   exact ⟨iEq hlt.symm, (cwl10.t d18)⟩
  refine sx_skip ?_
  refine q_n (k14 _ _ ?_)
  refine sx_seq fun K20 k20 => ?_
  have f21 := f16.ext d18
  have f22 := f17.ext d18
  refine dx_region (fun w' => Chg 0 0 w18 w') (by kernel_rfl) (Chg.zero (Chg.drew _)) ?_
  have d23 := Chg.drew w18
  have s23 : Chg 0 0 w18 (World.drew w18) := Chg.zero (Chg.drew _)
  have y23 : (World.drew w18).heap.size = w18.heap.size := rfl
  generalize World.drew w18 = w23 at *
  have zw23 := d23.size
  refine dt 0 rfl rfl rfl rfl s23 (fun _ hS => px_move rfl) ?_
  refine dt 1 rfl rfl rfl rfl s23 (fun _ hS => px_move rfl) ?_
  refine dt 2 rfl rfl rfl rfl s23 (fun _ hS => px_index1 (j := (k - 1)) rfl rfl (by omega) Tryd.underlying22 Tryd.sizeOf3 ((f21).chg hS (by omega)) (by omega)) ?_
  refine dt 3 rfl rfl rfl rfl s23 (fun _ hS => px_load rfl (((f21).chg hS (by omega)).load1 (at_int (by omega)) Tryd.isAgg3)) ?_
  refine dt 4 rfl rfl rfl rfl s23 (fun _ hS => px_move rfl) ?_
  refine dt 5 rfl rfl rfl rfl s23 (fun _ hS => px_move rfl) ?_
  refine dt 6 rfl rfl rfl rfl s23 (fun _ hS => px_index1 (j := (k - 1)) rfl rfl (by omega) Tryd.underlying22 Tryd.sizeOf3 ((f22).chg hS (by omega)) (by omega)) ?_
  refine dt 7 rfl rfl rfl rfl s23 (fun _ hS => px_load rfl (((f22).chg hS (by omega)).load1 (at_int (by omega)) Tryd.isAgg3)) ?_
  refine dt 8 rfl rfl rfl rfl s23 (fun _ hS => px_gt rfl rfl) ?_
  refine dx_done (by kernel_rfl) ?_
  refine q_n (k20 _ _ ?_)
  refine sx_sub (Sub.c 0 rfl (.c 1 rfl (.c 5 rfl (.c 40 rfl .nil)))) ?_
  refine sx_condP rfl (fun h64 => ?_) (fun h64 => ?_)
  ·
   refine sx_seq fun K24 k24 => sx_region ?_
   refine av rfl rfl (wl_nil (q_n (k24 _ _ ?_)))
   refine sx_retc ?_
   refine q_br (q_r (q_r (q_br (q_r (sx_ret1 Tryd.results44 rfl ?_)))))
   have hlt := cmpL_gt hl (k := k - 1) (by omega) (by rw [Nat.sub_add_cancel (by omega)]; exact he) (h64)
   exact ⟨iEq hlt.symm, ((cwl10.t d18).t d23)⟩
  refine sx_skip ?_
  refine q_bn (q_n (k13 _ _ ?_))
  refine sx_region ?_
  refine mv rfl rfl (sp rfl (px_sub rfl rfl (by omega)) ?_)
  refine av rfl rfl (wl_nil ?_)
  exact fun a ha => ⟨_, by omega, (k - 1), ha.sub (Sub.c 0 rfl (.c 1 rfl (.c 5 (look_int (t := 5) rfl (by first | omega | simp)) .nil))), ((cwl10.t d18).t d23), rfl, by omega, drop_succ_eq (by omega) (by omega) (by rw [Nat.sub_add_cancel (by omega)]; exact he) (by omega)⟩
 refine sx_exit ?_
 refine q_e (q_e (q_bx (q_n (k8 _ _ ?_))))
 refine sx_seq fun K25 k25 => sx_region ?_
 refine av rfl rfl (wl_nil (q_n (k25 _ _ ?_)))
 refine sx_retc ?_
 refine sx_ret1 Tryd.results44 rfl ?_
 have e1 : k = 0 := by omega
 subst e1
 have e2 : zs = ys := by simpa using he
 subst e2
 exact ⟨iEq (cmpL_self zs).symm, cwl10⟩

theorem c_IntCmp {w : World} {va : Value} {lva uva : Nat} {x : Int} {vb : Value} {lvb uvb : Nat} {y : Int} (hva : Sl w lva uva va (dg x.natAbs)) (hvb : Sl w lvb uvb vb (dg y.natAbs)) (hbx : (dg x.natAbs).length ≤ 50) (hby : (dg y.natAbs).length ≤ 50) :
  Ret Tryd.prog 33 [.agg #[.bool (ng x), va], .agg #[.bool (ng y), vb]] w fun v w' => v = .int .i64 (cmpI x y) ∧ Chg 0 0 w w' := by
 have hva0 := hva.fit
 have hvb0 := hvb.fit
 refine sx_enter Tryd.func33 rfl Tryd.ntmps33 (nbl rfl) ?_
 refine sx_seq fun K1 k1 => sx_region ?_
 refine sx_box [.bool (ng x), va] rfl rfl rfl (fun b2 w3 eb2 sb2 fb2 cb2 => ?_)
 have zw3 := cb2.size
 refine sx_box [.bool (ng y), vb] rfl rfl rfl (fun b4 w5 eb4 sb4 fb4 cb4 => ?_)
 have zw5 := cb4.size
 refine av rfl rfl (wl_nil (q_n (k1 _ _ ?_)))
 refine sx_seq fun K6 k6 => ?_
 refine sx_block ?_
 refine sx_seq fun K7 k7 => sx_region ?_
 have f8 := fb2.ext cb4
 refine sp rfl (px_load rfl (f8.loadA (vs := [.bool (ng x), va]) (look_lit rfl) Tryd.isAgg31 Tryd.sizeOf31)) ?_
 have f9 := hva0.ext cb2
 have f10 := f9.ext cb4
 refine sx_call rfl rfl Tryd.call31 (c_sIntOk f10 (by omega)) (fun v11 w11 p11 => ?_)
 obtain ⟨rfl, c11⟩ := p11
 have zw11 := c11.size
 refine sp rfl (px_notP rfl) ?_
 refine mv rfl rfl ?_
 have h89 : ¬ (¬ (IOk (ng x) (dg x.natAbs))) := by first | exact fun h => h (IOk_ng (by omega)) | exact fun h => h (IOk_ng (by assumption))
 refine sx_tmpPF (t := 9) rfl h89 ?_
 refine sx_guardT rfl rfl rfl ?_
 have f12 := fb4.ext c11
 refine sp rfl (px_load rfl (f12.loadA (vs := [.bool (ng y), vb]) (look_lit rfl) Tryd.isAgg31 Tryd.sizeOf31)) ?_
 refine sx_guardT rfl rfl rfl ?_
 have f13 := hvb0.ext cb2
 have f14 := f13.ext cb4
 have f15 := f14.ext c11
 refine sx_call rfl rfl Tryd.call31 (c_sIntOk f15 (by omega)) (fun v16 w16 p16 => ?_)
 obtain ⟨rfl, c16⟩ := p16
 have zw16 := c16.size
 refine sx_guardT rfl rfl rfl ?_
 refine sp rfl (px_notP rfl) ?_
 refine sp rfl (px_pick rfl rfl) ?_
 refine av rfl rfl (wl_nil (q_n (k7 _ _ ?_)))
 have h89x1 : ¬ (¬ (IOk (ng y) (dg y.natAbs))) := by first | exact fun h => h (IOk_ng (by omega)) | exact fun h => h (IOk_ng (by assumption))
 refine sx_condPF rfl h89x1 ?_
 refine sx_seq fun K17 k17 => sx_region ?_
 refine sp rfl (px_field rfl xfld31x0) ?_
 have f19 := (f8.ext c11).ext c16
 refine sp rfl (px_load rfl (f19.load1 rfl Tryd.isAgg4)) ?_
 refine mv rfl rfl ?_
 refine sx_tmpB (t := 17) rfl (fun h91 => ?_) (fun h91 => ?_)
 ·
  refine sx_guardT rfl rfl rfl ?_
  refine sp rfl (px_field rfl xfld31x0) ?_
  refine sx_guardT rfl rfl rfl ?_
  have f20 := f12.ext c16
  refine sp rfl (px_load rfl (f20.load1 rfl Tryd.isAgg4)) ?_
  refine sx_guardT rfl rfl rfl ?_
  refine sp rfl (px_not rfl) ?_
  refine sp rfl (px_pick rfl rfl) ?_
  refine av rfl rfl (wl_nil (q_n (k17 _ _ ?_)))
  refine sx_sub (Sub.c 2 rfl (.c 3 rfl (.c 4 rfl (.c 14 rfl .nil)))) ?_
  refine sx_condB rfl (fun h91x1 => ?_) (fun h91x1 => ?_)
  ·
   refine sx_seq fun K21 k21 => sx_region ?_
   refine av rfl rfl (wl_nil (q_n (k21 _ _ ?_)))
   refine sx_retc ?_
   refine q_br (q_r (sx_ret1 Tryd.results33 rfl ?_))
   exact ⟨iEq (cmpI_lt (by simp_all [ng] <;> omega)), (((cb2.t cb4).t c11).t c16)⟩
  refine sx_seq fun K22 k22 => sx_region ?_
  refine sp rfl (px_field rfl xfld31x0) ?_
  refine sp rfl (px_load rfl (f19.load1 rfl Tryd.isAgg4)) ?_
  refine sp rfl (px_not rfl) ?_
  refine mv rfl rfl ?_
  refine sx_tmpB (t := 26) rfl (fun h93 => ?_) (fun h93 => ?_)
  ·
   refine sx_guardT rfl rfl rfl ?_
   refine sp rfl (px_field rfl xfld31x0) ?_
   refine sx_guardT rfl rfl rfl ?_
   refine sp rfl (px_load rfl (f20.load1 rfl Tryd.isAgg4)) ?_
   refine sp rfl (px_pick rfl rfl) ?_
   refine av rfl rfl (wl_nil (q_n (k22 _ _ ?_)))
   refine sx_condB rfl (fun h93x1 => ?_) (fun h93x1 => ?_)
   ·
    refine sx_seq fun K23 k23 => sx_region ?_
    refine av rfl rfl (wl_nil (q_n (k23 _ _ ?_)))
    refine sx_retc ?_
    refine q_br (q_r (sx_ret1 Tryd.results33 rfl ?_))
    exact ⟨iEq (cmpI_gt (by simp_all [ng] <;> omega)), (((cb2.t cb4).t c11).t c16)⟩
   refine sx_seq fun K24 k24 => sx_region ?_
   refine sp rfl (px_field rfl xfld31x0) ?_
   refine sp rfl (px_load rfl (f19.load1 rfl Tryd.isAgg4)) ?_
   refine av rfl rfl (wl_nil (q_n (k24 _ _ ?_)))
   refine sx_sub (Sub.c 2 rfl (.c 3 rfl (.c 4 rfl (.c 30 rfl .nil)))) ?_
   refine sx_condB rfl (fun h95 => ?_) (fun h95 => ?_)
   ·
    refine sx_seq fun K25 k25 => sx_region ?_
    refine sp rfl (px_field rfl xfld31x1) ?_
    refine sp rfl (px_load rfl (f20.load1 rfl Tryd.isAgg22)) ?_
    refine sp rfl (px_field rfl xfld31x1) ?_
    refine sp rfl (px_load rfl (f19.load1 rfl Tryd.isAgg22)) ?_
    have f26 := f15.ext c16
    have f28 := (f10.ext c11).ext c16
    refine sx_call rfl rfl Tryd.call44 (c_l02Cmp f26 f28 (by omega)) (fun v29 w29 p29 => ?_)
    obtain ⟨rfl, c29⟩ := p29
    have zw29 := c29.size
    refine av rfl rfl (wl_nil (q_n (k25 _ _ ?_)))
    refine sx_retc ?_
    refine q_br (q_r (sx_ret1 Tryd.results33 rfl ?_))
    exact ⟨iEq (cmpI_mm (by simp_all [ng] <;> omega) (by simp_all [ng] <;> omega)), ((((cb2.t cb4).t c11).t c16).t c29)⟩
   refine sx_skip ?_
   refine q_bn (q_n (k6 _ _ ?_))
   refine sx_seq fun K30 k30 => sx_region ?_
   refine sp rfl (px_field rfl xfld31x1) ?_
   refine sp rfl (px_load rfl (f19.load1 rfl Tryd.isAgg22)) ?_
   refine sp rfl (px_field rfl xfld31x1) ?_
   refine sp rfl (px_load rfl (f20.load1 rfl Tryd.isAgg22)) ?_
   have f32 := (f10.ext c11).ext c16
   have f33 := f15.ext c16
   refine sx_call rfl rfl Tryd.call44 (c_l02Cmp f32 f33 (by omega)) (fun v34 w34 p34 => ?_)
   obtain ⟨rfl, c34⟩ := p34
   have zw34 := c34.size
   refine av rfl rfl (wl_nil (q_n (k30 _ _ ?_)))
   refine sx_retc ?_
   refine sx_ret1 Tryd.results33 rfl ?_
   exact ⟨iEq (cmpI_nn (by simp_all [ng] <;> omega) (by simp_all [ng] <;> omega)), ((((cb2.t cb4).t c11).t c16).t c34)⟩
  refine sx_guardF rfl rfl rfl rfl rfl rfl ?_
  refine sx_guardF rfl rfl rfl rfl rfl rfl ?_
  refine sp rfl (px_pick rfl rfl) ?_
  refine av rfl rfl (wl_nil (q_n (k22 _ _ ?_)))
  refine sx_condF rfl ?_
  refine sx_seq fun K35 k35 => sx_region ?_
  refine sp rfl (px_field rfl xfld31x0) ?_
  refine sp rfl (px_load rfl (f19.load1 rfl Tryd.isAgg4)) ?_
  refine av rfl rfl (wl_nil (q_n (k35 _ _ ?_)))
  refine sx_sub (Sub.c 2 rfl (.c 3 rfl (.c 4 rfl (.c 30 rfl .nil)))) ?_
  refine sx_condB rfl (fun h95 => ?_) (fun h95 => ?_)
  ·
   refine sx_seq fun K36 k36 => sx_region ?_
   refine sp rfl (px_field rfl xfld31x1) ?_
   refine sp rfl (px_load rfl (f20.load1 rfl Tryd.isAgg22)) ?_
   refine sp rfl (px_field rfl xfld31x1) ?_
   refine sp rfl (px_load rfl (f19.load1 rfl Tryd.isAgg22)) ?_
   have f37 := f15.ext c16
   have f39 := (f10.ext c11).ext c16
   refine sx_call rfl rfl Tryd.call44 (c_l02Cmp f37 f39 (by omega)) (fun v40 w40 p40 => ?_)
   obtain ⟨rfl, c40⟩ := p40
   have zw40 := c40.size
   refine av rfl rfl (wl_nil (q_n (k36 _ _ ?_)))
   refine sx_retc ?_
   refine q_br (q_r (sx_ret1 Tryd.results33 rfl ?_))
   exact ⟨iEq (cmpI_mm (by simp_all [ng] <;> omega) (by simp_all [ng] <;> omega)), ((((cb2.t cb4).t c11).t c16).t c40)⟩
  refine sx_skip ?_
  refine q_bn (q_n (k6 _ _ ?_))
  refine sx_seq fun K41 k41 => sx_region ?_
  refine sp rfl (px_field rfl xfld31x1) ?_
  refine sp rfl (px_load rfl (f19.load1 rfl Tryd.isAgg22)) ?_
  refine sp rfl (px_field rfl xfld31x1) ?_
  refine sp rfl (px_load rfl (f20.load1 rfl Tryd.isAgg22)) ?_
  have f43 := (f10.ext c11).ext c16
  have f44 := f15.ext c16
  refine sx_call rfl rfl Tryd.call44 (c_l02Cmp f43 f44 (by omega)) (fun v45 w45 p45 => ?_)
  obtain ⟨rfl, c45⟩ := p45
  have zw45 := c45.size
  refine av rfl rfl (wl_nil (q_n (k41 _ _ ?_)))
  refine sx_retc ?_
  refine sx_ret1 Tryd.results33 rfl ?_
  exact ⟨iEq (cmpI_nn (by simp_all [ng] <;> omega) (by simp_all [ng] <;> omega)), ((((cb2.t cb4).t c11).t c16).t c45)⟩
 refine sx_guardF rfl rfl rfl rfl rfl rfl ?_
 refine sx_guardF rfl rfl rfl rfl rfl rfl ?_
 refine sx_guardF rfl rfl rfl rfl rfl rfl ?_
 refine sp rfl (px_pick rfl rfl) ?_
 refine av rfl rfl (wl_nil (q_n (k17 _ _ ?_)))
 refine sx_sub (Sub.c 2 rfl (.c 3 rfl (.c 4 rfl (.c 14 rfl .nil)))) ?_
 refine sx_condF rfl ?_
 refine sx_seq fun K46 k46 => sx_region ?_
 refine sp rfl (px_field rfl xfld31x0) ?_
 refine sp rfl (px_load rfl (f19.load1 rfl Tryd.isAgg4)) ?_
 refine sp rfl (px_not rfl) ?_
 refine mv rfl rfl ?_
 refine sx_tmpB (t := 26) rfl (fun h93 => ?_) (fun h93 => ?_)
 ·
  refine sx_guardT rfl rfl rfl ?_
  refine sp rfl (px_field rfl xfld31x0) ?_
  refine sx_guardT rfl rfl rfl ?_
  have f47 := f12.ext c16
  refine sp rfl (px_load rfl (f47.load1 rfl Tryd.isAgg4)) ?_
  refine sp rfl (px_pick rfl rfl) ?_
  refine av rfl rfl (wl_nil (q_n (k46 _ _ ?_)))
  refine sx_condB rfl (fun h93x1 => ?_) (fun h93x1 => ?_)
  ·
   refine sx_seq fun K48 k48 => sx_region ?_
   refine av rfl rfl (wl_nil (q_n (k48 _ _ ?_)))
   refine sx_retc ?_
   refine q_br (q_r (sx_ret1 Tryd.results33 rfl ?_))
   exact ⟨iEq (cmpI_gt (by simp_all [ng] <;> omega)), (((cb2.t cb4).t c11).t c16)⟩
  refine sx_seq fun K49 k49 => sx_region ?_
  refine sp rfl (px_field rfl xfld31x0) ?_
  refine sp rfl (px_load rfl (f19.load1 rfl Tryd.isAgg4)) ?_
  refine av rfl rfl (wl_nil (q_n (k49 _ _ ?_)))
  refine sx_sub (Sub.c 2 rfl (.c 3 rfl (.c 4 rfl (.c 30 rfl .nil)))) ?_
  refine sx_condB rfl (fun h95 => ?_) (fun h95 => ?_)
  ·
   refine sx_seq fun K50 k50 => sx_region ?_
   refine sp rfl (px_field rfl xfld31x1) ?_
   refine sp rfl (px_load rfl (f47.load1 rfl Tryd.isAgg22)) ?_
   refine sp rfl (px_field rfl xfld31x1) ?_
   refine sp rfl (px_load rfl (f19.load1 rfl Tryd.isAgg22)) ?_
   have f51 := f15.ext c16
   have f53 := (f10.ext c11).ext c16
   refine sx_call rfl rfl Tryd.call44 (c_l02Cmp f51 f53 (by omega)) (fun v54 w54 p54 => ?_)
   obtain ⟨rfl, c54⟩ := p54
   have zw54 := c54.size
   refine av rfl rfl (wl_nil (q_n (k50 _ _ ?_)))
   refine sx_retc ?_
   refine q_br (q_r (sx_ret1 Tryd.results33 rfl ?_))
   exact ⟨iEq (cmpI_mm (by simp_all [ng] <;> omega) (by simp_all [ng] <;> omega)), ((((cb2.t cb4).t c11).t c16).t c54)⟩
  refine sx_skip ?_
  refine q_bn (q_n (k6 _ _ ?_))
  refine sx_seq fun K55 k55 => sx_region ?_
  refine sp rfl (px_field rfl xfld31x1) ?_
  refine sp rfl (px_load rfl (f19.load1 rfl Tryd.isAgg22)) ?_
  refine sp rfl (px_field rfl xfld31x1) ?_
  refine sp rfl (px_load rfl (f47.load1 rfl Tryd.isAgg22)) ?_
  have f57 := (f10.ext c11).ext c16
  have f58 := f15.ext c16
  refine sx_call rfl rfl Tryd.call44 (c_l02Cmp f57 f58 (by omega)) (fun v59 w59 p59 => ?_)
  obtain ⟨rfl, c59⟩ := p59
  have zw59 := c59.size
  refine av rfl rfl (wl_nil (q_n (k55 _ _ ?_)))
  refine sx_retc ?_
  refine sx_ret1 Tryd.results33 rfl ?_
  exact ⟨iEq (cmpI_nn (by simp_all [ng] <;> omega) (by simp_all [ng] <;> omega)), ((((cb2.t cb4).t c11).t c16).t c59)⟩
 refine sx_guardF rfl rfl rfl rfl rfl rfl ?_
 refine sx_guardF rfl rfl rfl rfl rfl rfl ?_
 refine sp rfl (px_pick rfl rfl) ?_
 refine av rfl rfl (wl_nil (q_n (k46 _ _ ?_)))
 refine sx_condF rfl ?_
 refine sx_seq fun K60 k60 => sx_region ?_
 refine sp rfl (px_field rfl xfld31x0) ?_
 refine sp rfl (px_load rfl (f19.load1 rfl Tryd.isAgg4)) ?_
 refine av rfl rfl (wl_nil (q_n (k60 _ _ ?_)))
 refine sx_sub (Sub.c 2 rfl (.c 3 rfl (.c 4 rfl (.c 30 rfl .nil)))) ?_
 refine sx_condB rfl (fun h95 => ?_) (fun h95 => ?_)
 ·
  refine sx_seq fun K61 k61 => sx_region ?_
  refine sp rfl (px_field rfl xfld31x1) ?_
  have f62 := f12.ext c16
  refine sp rfl (px_load rfl (f62.load1 rfl Tryd.isAgg22)) ?_
  refine sp rfl (px_field rfl xfld31x1) ?_
  refine sp rfl (px_load rfl (f19.load1 rfl Tryd.isAgg22)) ?_
  have f63 := f15.ext c16
  have f65 := (f10.ext c11).ext c16
  refine sx_call rfl rfl Tryd.call44 (c_l02Cmp f63 f65 (by omega)) (fun v66 w66 p66 => ?_)
  obtain ⟨rfl, c66⟩ := p66
  have zw66 := c66.size
  refine av rfl rfl (wl_nil (q_n (k61 _ _ ?_)))
  refine sx_retc ?_
  refine q_br (q_r (sx_ret1 Tryd.results33 rfl ?_))
  exact ⟨iEq (cmpI_mm (by simp_all [ng] <;> omega) (by simp_all [ng] <;> omega)), ((((cb2.t cb4).t c11).t c16).t c66)⟩
 refine sx_skip ?_
 refine q_bn (q_n (k6 _ _ ?_))
 refine sx_seq fun K67 k67 => sx_region ?_
 refine sp rfl (px_field rfl xfld31x1) ?_
 refine sp rfl (px_load rfl (f19.load1 rfl Tryd.isAgg22)) ?_
 refine sp rfl (px_field rfl xfld31x1) ?_
 have f68 := f12.ext c16
 refine sp rfl (px_load rfl (f68.load1 rfl Tryd.isAgg22)) ?_
 have f70 := (f10.ext c11).ext c16
 have f71 := f15.ext c16
 refine sx_call rfl rfl Tryd.call44 (c_l02Cmp f70 f71 (by omega)) (fun v72 w72 p72 => ?_)
 obtain ⟨rfl, c72⟩ := p72
 have zw72 := c72.size
 refine av rfl rfl (wl_nil (q_n (k67 _ _ ?_)))
 refine sx_retc ?_
 refine sx_ret1 Tryd.results33 rfl ?_
 exact ⟨iEq (cmpI_nn (by simp_all [ng] <;> omega) (by simp_all [ng] <;> omega)), ((((cb2.t cb4).t c11).t c16).t c72)⟩

theorem c_IntCmpZ {w : World} {va : Value} {lva uva : Nat} {x : Int} {b : Bool} {vb : Value} {lvb uvb : Nat} {ys : List Int} (hva : Sl w lva uva va (dg x.natAbs)) (hvb : Sl w lvb uvb vb (ys)) (hbx : (dg x.natAbs).length ≤ 50) (hb : b = false) (hy : ys = []) :
  Ret Tryd.prog 33 [.agg #[.bool (ng x), va], .agg #[.bool b, vb]] w fun v w' => v = .int .i64 (cmpI x 0) ∧ Chg 0 0 w w' := by
 have h := c_IntCmp (y := 0) (vb := vb) hva (by rw [Int.natAbs_zero, dg_zero]; rw [hy] at hvb; exact hvb) hbx (by rw [Int.natAbs_zero, dg_zero]; simp)
 rw [hb, show false = ng 0 by simp [ng]]; exact h

theorem c_sIntSign {w : World} {va : Value} {lva uva : Nat} {x : Int} (hva : Sl w lva uva va (dg x.natAbs)) (hbx : (dg x.natAbs).length ≤ 50) :
  Ret Tryd.prog 19 [.agg #[.bool (ng x), va]] w fun v w' => v = .int .i64 (cmpI x 0) ∧ Chg 0 0 w w' := by
 have hva0 := hva.fit
 refine sx_enter Tryd.func19 rfl Tryd.ntmps19 (nbl rfl) ?_
 refine sx_seq fun K1 k1 => sx_region ?_
 refine sx_box [.bool (ng x), va] rfl rfl rfl (fun b2 w3 eb2 sb2 fb2 cb2 => ?_)
 have zw3 := cb2.size
 refine av rfl rfl (wl_nil (q_n (k1 _ _ ?_)))
 refine sx_seq fun K4 k4 => sx_region ?_
 refine sp rfl (px_load rfl (fb2.loadA (vs := [.bool (ng x), va]) (look_lit rfl) Tryd.isAgg31 Tryd.sizeOf31)) ?_
 refine sp rfl (px_build rfl (xbld31x  _)) ?_
 have f5 := hva0.ext cb2
 refine sx_call rfl rfl Tryd.call33 (c_IntCmpZ f5 (Sv.nil _ 0 0 1) (by omega) (rfl) (rfl)) (fun v6 w6 p6 => ?_)
 obtain ⟨rfl, c6⟩ := p6
 have zw6 := c6.size
 refine av rfl rfl (wl_nil (q_n (k4 _ _ ?_)))
 refine sx_retc ?_
 refine sx_ret1 Tryd.results19 rfl ?_
 exact ⟨rfl, (cb2.t c6)⟩

theorem c_sRateOk {w : World} {f1 : ByteArray} {t1 : ByteArray} {n1 : Bool} {v1 : Value} {lv1 uv1 : Nat} {z1 : List Int} {p1 : Int} (hv1 : Sl w lv1 uv1 v1 (z1)) (h63 : z1.length ≤ 4611686018427387904) :
  Ret Tryd.prog 10 [.agg #[.string f1, .string t1, .bool n1, v1, .int .i64 p1]] w fun v w' => v = .bool (decide (RateP f1 t1 n1 z1 p1)) ∧ Chg 0 0 w w' := by
 have hv10 := hv1.fit
 refine sx_enter Tryd.func10 rfl Tryd.ntmps10 (nbl rfl) ?_
 refine sx_seq fun K1 k1 => sx_region ?_
 refine sx_box [.string f1, .string t1, .bool n1, v1, .int .i64 p1] rfl rfl rfl (fun b2 w3 eb2 sb2 fb2 cb2 => ?_)
 have zw3 := cb2.size
 refine av rfl rfl (wl_nil (q_n (k1 _ _ ?_)))
 refine sx_seq fun K4 k4 => sx_region ?_
 refine sp rfl (px_field rfl xfld35x0) ?_
 refine sp rfl (px_load rfl (fb2.load1 rfl Tryd.isAgg9)) ?_
 refine sx_call rfl rfl Tryd.call17 (c_sCurKnown) (fun v5 w5 p5 => ?_)
 obtain ⟨rfl, c5⟩ := p5
 have zw5 := c5.size
 refine mv rfl rfl ?_
 refine sx_tmpP (t := 6) rfl (fun h7 => ?_) (fun h7 => ?_)
 ·
  refine sx_guardT rfl rfl rfl ?_
  refine sp rfl (px_field rfl xfld35x1) ?_
  refine sx_guardT rfl rfl rfl ?_
  have f6 := fb2.ext c5
  refine sp rfl (px_load rfl (f6.load1 rfl Tryd.isAgg9)) ?_
  refine sx_guardT rfl rfl rfl ?_
  refine sx_call rfl rfl Tryd.call17 (c_sCurKnown) (fun v7 w7 p7 => ?_)
  obtain ⟨rfl, c7⟩ := p7
  have zw7 := c7.size
  refine sp rfl (px_pick rfl rfl) ?_
  refine mv rfl rfl ?_
  refine sx_tmpP (t := 11) rfl (fun h7x1 => ?_) (fun h7x1 => ?_)
  ·
   refine sx_guardT rfl rfl rfl ?_
   refine sp rfl (px_field rfl xfld35x0) ?_
   refine sx_guardT rfl rfl rfl ?_
   have f8 := f6.ext c7
   refine sp rfl (px_load rfl (f8.load1 rfl Tryd.isAgg9)) ?_
   refine sx_guardT rfl rfl rfl ?_
   refine sp rfl (px_field rfl xfld35x1) ?_
   refine sx_guardT rfl rfl rfl ?_
   refine sp rfl (px_load rfl (f8.load1 rfl Tryd.isAgg9)) ?_
   refine sx_guardT rfl rfl rfl ?_
   refine sp rfl (px_neS rfl rfl) ?_
   refine sp rfl (px_pick rfl rfl) ?_
   refine mv rfl rfl ?_
   refine sx_tmpP (t := 18) rfl (fun h7x2 => ?_) (fun h7x2 => ?_)
   ·
    refine sx_guardT rfl rfl rfl ?_
    refine sp rfl (px_field rfl xfld35x2) ?_
    refine sx_guardT rfl rfl rfl ?_
    refine sp rfl (px_load rfl (f8.loadA (vs := [.bool n1, v1, .int .i64 p1]) (look_lit rfl) Tryd.isAgg33 Tryd.sizeOf33)) ?_
    refine sx_guardT rfl rfl rfl ?_
    have f9 := hv10.ext cb2
    have f11 := (f9.ext c5).ext c7
    refine sx_call rfl rfl Tryd.call18 (c_sDecOk f11 (by omega)) (fun v12 w12 p12 => ?_)
    obtain ⟨rfl, c12⟩ := p12
    have zw12 := c12.size
    refine sp rfl (px_pick rfl rfl) ?_
    refine mv rfl rfl ?_
    refine sx_tmpP (t := 23) rfl (fun h7x3 => ?_) (fun h7x3 => ?_)
    ·
     have hD := h7x3
     obtain ⟨x1, rfl, rfl, hx1⟩ := hD.int
     have hvx := vI_ng x1
     have hsx := sign_gt (x := x1)
     have hcx := cmpI_gt0 (x := x1)
     refine sx_guardT rfl rfl rfl ?_
     refine sp rfl (px_field rfl xfld35x2) ?_
     refine sx_guardT rfl rfl rfl ?_
     refine sp rfl (px_field rfl xfld33x0) ?_
     refine sx_guardT rfl rfl rfl ?_
     have f13 := f8.ext c12
     refine sp rfl (px_load rfl (f13.loadA (vs := [.bool (ng x1), v1]) (look_lit rfl) Tryd.isAgg31 Tryd.sizeOf31)) ?_
     refine sx_guardT rfl rfl rfl ?_
     have f14 := f11.ext c12
     refine sx_call rfl rfl Tryd.call19 (c_sIntSign f14 (by omega)) (fun v15 w15 p15 => ?_)
     obtain ⟨rfl, c15⟩ := p15
     have zw15 := c15.size
     refine sx_guardT rfl rfl rfl ?_
     refine sp rfl (px_gt rfl rfl) ?_
     refine sp rfl (px_pick rfl rfl) ?_
     refine mv rfl rfl ?_
     refine sx_tmpP (t := 30) rfl (fun h7x4 => ?_) (fun h7x4 => ?_)
     ·
      refine sx_guardT rfl rfl rfl ?_
      refine sp rfl (px_field rfl xfld35x2) ?_
      refine sx_guardT rfl rfl rfl ?_
      refine sp rfl (px_field rfl xfld33x0) ?_
      refine sx_guardT rfl rfl rfl ?_
      refine sp rfl (px_field rfl xfld31x1) ?_
      refine sx_guardT rfl rfl rfl ?_
      have f16 := f13.ext c15
      refine sp rfl (px_load rfl (f16.load1 rfl Tryd.isAgg22)) ?_
      refine sx_guardT rfl rfl rfl ?_
      have f17 := f14.ext c15
      refine sp rfl (px_len rfl Tryd.underlying22 f17) ?_
      refine sx_guardT rfl rfl rfl ?_
      refine sp rfl (px_le rfl rfl) ?_
      refine sp rfl (px_pick rfl rfl) ?_
      refine av rfl rfl (wl_nil (q_n (k4 _ _ ?_)))
      refine sx_sub (Sub.c 2 rfl .nil) ?_
      refine sx_retc ?_
      refine sx_ret1 Tryd.results10 rfl ?_
      exact ⟨(by first | exact bTrue (by grind [RateP]) | exact bFalse (by grind [RateP]) | exact bIff (by grind [RateP])), ((((cb2.t c5).t c7).t c12).t c15)⟩
     refine sx_guardF rfl rfl rfl rfl rfl rfl ?_
     refine sx_guardF rfl rfl rfl rfl rfl rfl ?_
     refine sx_guardF rfl rfl rfl rfl rfl rfl ?_
     refine sx_guardF rfl rfl rfl rfl rfl rfl ?_
     refine sx_guardF rfl rfl rfl rfl rfl rfl ?_
     refine sx_guardF rfl rfl rfl rfl rfl rfl ?_
     refine sp rfl (px_pick rfl rfl) ?_
     refine av rfl rfl (wl_nil (q_n (k4 _ _ ?_)))
     refine sx_sub (Sub.c 2 rfl .nil) ?_
     refine sx_retc ?_
     refine sx_ret1 Tryd.results10 rfl ?_
     exact ⟨(by first | exact bTrue (by grind [RateP]) | exact bFalse (by grind [RateP]) | exact bIff (by grind [RateP])), ((((cb2.t c5).t c7).t c12).t c15)⟩
    refine sx_guardF rfl rfl rfl rfl rfl rfl ?_
    refine sx_guardF rfl rfl rfl rfl rfl rfl ?_
    refine sx_guardF rfl rfl rfl rfl rfl rfl ?_
    refine sx_guardF rfl rfl rfl rfl rfl rfl ?_
    refine sx_guardF rfl rfl rfl rfl rfl rfl ?_
    refine sp rfl (px_pick rfl rfl) ?_
    refine mv rfl rfl ?_
    refine sx_guardF rfl rfl rfl rfl rfl rfl ?_
    refine sx_guardF rfl rfl rfl rfl rfl rfl ?_
    refine sx_guardF rfl rfl rfl rfl rfl rfl ?_
    refine sx_guardF rfl rfl rfl rfl rfl rfl ?_
    refine sx_guardF rfl rfl rfl rfl rfl rfl ?_
    refine sx_guardF rfl rfl rfl rfl rfl rfl ?_
    refine sp rfl (px_pick rfl rfl) ?_
    refine av rfl rfl (wl_nil (q_n (k4 _ _ ?_)))
    refine sx_sub (Sub.c 2 rfl .nil) ?_
    refine sx_retc ?_
    refine sx_ret1 Tryd.results10 rfl ?_
    exact ⟨(by first | exact bTrue (by grind [RateP]) | exact bFalse (by grind [RateP]) | exact bIff (by grind [RateP])), (((cb2.t c5).t c7).t c12)⟩
   refine sx_guardF rfl rfl rfl rfl rfl rfl ?_
   refine sx_guardF rfl rfl rfl rfl rfl rfl ?_
   refine sx_guardF rfl rfl rfl rfl rfl rfl ?_
   refine sp rfl (px_pick rfl rfl) ?_
   refine mv rfl rfl ?_
   refine sx_guardF rfl rfl rfl rfl rfl rfl ?_
   refine sx_guardF rfl rfl rfl rfl rfl rfl ?_
   refine sx_guardF rfl rfl rfl rfl rfl rfl ?_
   refine sx_guardF rfl rfl rfl rfl rfl rfl ?_
   refine sx_guardF rfl rfl rfl rfl rfl rfl ?_
   refine sp rfl (px_pick rfl rfl) ?_
   refine mv rfl rfl ?_
   refine sx_guardF rfl rfl rfl rfl rfl rfl ?_
   refine sx_guardF rfl rfl rfl rfl rfl rfl ?_
   refine sx_guardF rfl rfl rfl rfl rfl rfl ?_
   refine sx_guardF rfl rfl rfl rfl rfl rfl ?_
   refine sx_guardF rfl rfl rfl rfl rfl rfl ?_
   refine sx_guardF rfl rfl rfl rfl rfl rfl ?_
   refine sp rfl (px_pick rfl rfl) ?_
   refine av rfl rfl (wl_nil (q_n (k4 _ _ ?_)))
   refine sx_sub (Sub.c 2 rfl .nil) ?_
   refine sx_retc ?_
   refine sx_ret1 Tryd.results10 rfl ?_
   exact ⟨(by first | exact bTrue (by grind [RateP]) | exact bFalse (by grind [RateP]) | exact bIff (by grind [RateP])), ((cb2.t c5).t c7)⟩
  refine sx_guardF rfl rfl rfl rfl rfl rfl ?_
  refine sx_guardF rfl rfl rfl rfl rfl rfl ?_
  refine sx_guardF rfl rfl rfl rfl rfl rfl ?_
  refine sx_guardF rfl rfl rfl rfl rfl rfl ?_
  refine sx_guardF rfl rfl rfl rfl rfl rfl ?_
  refine sp rfl (px_pick rfl rfl) ?_
  refine mv rfl rfl ?_
  refine sx_guardF rfl rfl rfl rfl rfl rfl ?_
  refine sx_guardF rfl rfl rfl rfl rfl rfl ?_
  refine sx_guardF rfl rfl rfl rfl rfl rfl ?_
  refine sp rfl (px_pick rfl rfl) ?_
  refine mv rfl rfl ?_
  refine sx_guardF rfl rfl rfl rfl rfl rfl ?_
  refine sx_guardF rfl rfl rfl rfl rfl rfl ?_
  refine sx_guardF rfl rfl rfl rfl rfl rfl ?_
  refine sx_guardF rfl rfl rfl rfl rfl rfl ?_
  refine sx_guardF rfl rfl rfl rfl rfl rfl ?_
  refine sp rfl (px_pick rfl rfl) ?_
  refine mv rfl rfl ?_
  refine sx_guardF rfl rfl rfl rfl rfl rfl ?_
  refine sx_guardF rfl rfl rfl rfl rfl rfl ?_
  refine sx_guardF rfl rfl rfl rfl rfl rfl ?_
  refine sx_guardF rfl rfl rfl rfl rfl rfl ?_
  refine sx_guardF rfl rfl rfl rfl rfl rfl ?_
  refine sx_guardF rfl rfl rfl rfl rfl rfl ?_
  refine sp rfl (px_pick rfl rfl) ?_
  refine av rfl rfl (wl_nil (q_n (k4 _ _ ?_)))
  refine sx_sub (Sub.c 2 rfl .nil) ?_
  refine sx_retc ?_
  refine sx_ret1 Tryd.results10 rfl ?_
  exact ⟨(by first | exact bTrue (by grind [RateP]) | exact bFalse (by grind [RateP]) | exact bIff (by grind [RateP])), ((cb2.t c5).t c7)⟩
 refine sx_guardF rfl rfl rfl rfl rfl rfl ?_
 refine sx_guardF rfl rfl rfl rfl rfl rfl ?_
 refine sx_guardF rfl rfl rfl rfl rfl rfl ?_
 refine sp rfl (px_pick rfl rfl) ?_
 refine mv rfl rfl ?_
 refine sx_guardF rfl rfl rfl rfl rfl rfl ?_
 refine sx_guardF rfl rfl rfl rfl rfl rfl ?_
 refine sx_guardF rfl rfl rfl rfl rfl rfl ?_
 refine sx_guardF rfl rfl rfl rfl rfl rfl ?_
 refine sx_guardF rfl rfl rfl rfl rfl rfl ?_
 refine sp rfl (px_pick rfl rfl) ?_
 refine mv rfl rfl ?_
 refine sx_guardF rfl rfl rfl rfl rfl rfl ?_
 refine sx_guardF rfl rfl rfl rfl rfl rfl ?_
 refine sx_guardF rfl rfl rfl rfl rfl rfl ?_
 refine sp rfl (px_pick rfl rfl) ?_
 refine mv rfl rfl ?_
 refine sx_guardF rfl rfl rfl rfl rfl rfl ?_
 refine sx_guardF rfl rfl rfl rfl rfl rfl ?_
 refine sx_guardF rfl rfl rfl rfl rfl rfl ?_
 refine sx_guardF rfl rfl rfl rfl rfl rfl ?_
 refine sx_guardF rfl rfl rfl rfl rfl rfl ?_
 refine sp rfl (px_pick rfl rfl) ?_
 refine mv rfl rfl ?_
 refine sx_guardF rfl rfl rfl rfl rfl rfl ?_
 refine sx_guardF rfl rfl rfl rfl rfl rfl ?_
 refine sx_guardF rfl rfl rfl rfl rfl rfl ?_
 refine sx_guardF rfl rfl rfl rfl rfl rfl ?_
 refine sx_guardF rfl rfl rfl rfl rfl rfl ?_
 refine sx_guardF rfl rfl rfl rfl rfl rfl ?_
 refine sp rfl (px_pick rfl rfl) ?_
 refine av rfl rfl (wl_nil (q_n (k4 _ _ ?_)))
 refine sx_sub (Sub.c 2 rfl .nil) ?_
 refine sx_retc ?_
 refine sx_ret1 Tryd.results10 rfl ?_
 exact ⟨(by first | exact bTrue (by grind [RateP]) | exact bFalse (by grind [RateP]) | exact bIff (by grind [RateP])), (cb2.t c5)⟩

theorem c_sIntText {w : World} {n : Int} (hn : 0 ≤ n ∧ n < 1000000000) :
  Ret Tryd.prog 35 [.int .i64 n] w fun v w' => v = .string (itx n) ∧ Chg 0 0 w w' := by
 refine sx_enter Tryd.func35 rfl Tryd.ntmps35 (nbl rfl) ?_
 refine sx_seq fun K1 k1 => sx_region ?_
 refine av rfl rfl (wl_nil (q_n (k1 _ _ ?_)))
 refine sx_seq fun K2 k2 => ?_
 refine sx_seq fun K3 k3 => sx_region ?_
 refine mv rfl rfl (sp rfl (px_lt rfl rfl) ?_)
 refine wl_nil (q_n (k3 _ _ ?_))
 have h9 : ¬ ((n : Int) < 0) := by omega
 refine sx_condPF rfl h9 ?_
 refine sx_skip ?_
 refine q_n (k2 _ _ ?_)
 refine sx_seq fun K4 k4 => sx_region ?_
 refine av rfl rfl (wl_nil (q_n (k4 _ _ ?_)))
 refine sx_seq fun K5 k5 => ?_
 refine sx_block ?_
 refine sx_loop (fun mm aa w' => ∃ (m : Int) (s : ByteArray), Agr 44 [(0, .int .i64 m), (3, .string s)] aa ∧ Chg 0 0 w w' ∧ (mm = m.toNat) ∧ (0 ≤ m ∧ m ≤ n) ∧ (Lib.decDigits n.toNat = Lib.decDigits m.toNat ++ s.data.toList) ∧ (↑s.size + m ≤ 1000000000)) (_) (fun a ha => ⟨n, ⟨#[]⟩, ha.sub (Sub.c 0 (look_int (t := 0) rfl (by first | omega | simp)) (.c 3 rfl .nil)), Chg.refl _ _ _, rfl, by omega, by simp, by have : (⟨#[]⟩ : ByteArray).size = 0 := rfl; omega⟩) ?_
 rintro mm aa wl6 ⟨m, s, hAwl6, cwl6, hm, hm, hd, hz⟩
 refine (show cw Tryd.prog 44 _ _ _ wl6 from ?_) aa hAwl6
 clear hAwl6
 have zwl6 := cwl6.size
 refine sx_seq fun K7 k7 => ?_
 refine sx_seq fun K8 k8 => sx_region ?_
 refine mv rfl rfl (sp rfl (px_gt rfl rfl) ?_)
 refine wl_nil (q_n (k8 _ _ ?_))
 refine sx_condP rfl (fun h16 => ?_) (fun h16 => ?_)
 ·
  refine sx_skip ?_
  refine q_n (k7 _ _ ?_)
  refine sx_block ?_
  refine sx_seq fun K9 k9 => sx_region ?_
  refine mv rfl rfl (sp rfl (px_rem rfl rfl (by omega) (by omega)) ?_)
  refine sp rfl (px_add rfl rfl (by omega)) ?_
  refine sp rfl (px_convU8 Tryd.underlying3 Tryd.underlying5 rfl (by omega)) ?_
  refine sx_lit1 rfl xelt71 rfl rfl (fun s10 ws10 ss10 fs10 cs10 => ?_)
  have zws10 := cs10.size
  refine sp rfl (px_convS1 Tryd.underlying71 Tryd.underlying9 Tryd.underlying5 rfl fs10.sv) ?_
  refine mv rfl rfl (sp rfl (px_cat rfl rfl (by first | omega | (simp only [byteS_size]; omega))) ?_)
  refine av rfl rfl (wl_nil (q_n (k9 _ _ ?_)))
  refine sx_region ?_
  refine mv rfl rfl (sp rfl (px_quo rfl rfl (by omega) (by omega) (by omega)) ?_)
  refine av rfl rfl (wl_nil ?_)
  exact q_bn (fun a ha => ⟨_, by omega, (m / 10), ((byteS (48 + (m % 10))) ++ s), ha.sub (Sub.c 0 (look_int (t := 0) rfl (by first | omega | simp)) (.c 3 rfl .nil)), (cwl6.t cs10), rfl, by omega, itx_step (by omega) hd, by rw [ByteArray.size_append, byteS_size]; omega⟩)
 refine sx_exit ?_
 refine q_e (q_e (q_bx (q_n (k5 _ _ ?_))))
 refine sx_seq fun K11 k11 => sx_region ?_
 refine mv rfl rfl (sp rfl (px_add rfl rfl (by omega)) ?_)
 refine sp rfl (px_convU8 Tryd.underlying3 Tryd.underlying5 rfl (by omega)) ?_
 refine sx_lit1 rfl xelt71 rfl rfl (fun s12 ws12 ss12 fs12 cs12 => ?_)
 have zws12 := cs12.size
 refine sp rfl (px_convS1 Tryd.underlying71 Tryd.underlying9 Tryd.underlying5 rfl fs12.sv) ?_
 refine mv rfl rfl (sp rfl (px_cat rfl rfl (by first | omega | (simp only [byteS_size]; omega))) ?_)
 refine av rfl rfl (wl_nil (q_n (k11 _ _ ?_)))
 refine sx_retc ?_
 refine sx_ret1 Tryd.results35 rfl ?_
 have e := itx_end (by omega) (by omega) hd
 exact ⟨congrArg Value.string e, (cwl6.t cs12)⟩

theorem c_sPad {w : World} {s : ByteArray} {n : Int} (hs : s.size ≤ 100000) (hn : 0 ≤ n ∧ n ≤ 100000) :
  Ret Tryd.prog 20 [.string s, .int .i64 n] w fun v w' => v = .string (padT s n) ∧ Chg 0 0 w w' := by
 refine sx_enter Tryd.func20 rfl Tryd.ntmps20 (nbl rfl) ?_
 refine sx_seq fun K1 k1 => sx_region ?_
 refine av rfl rfl (wl_nil (q_n (k1 _ _ ?_)))
 refine sx_seq fun K2 k2 => ?_
 refine sx_seq fun K3 k3 => sx_region ?_
 refine mv rfl rfl (sp rfl (px_gt rfl rfl) ?_)
 refine wl_nil (q_n (k3 _ _ ?_))
 refine sx_condP rfl (fun h115 => ?_) (fun h115 => ?_)
 ·
  refine sx_seq fun K4 k4 => sx_region ?_
  refine mv rfl rfl (av rfl rfl (wl_nil (q_n (k4 _ _ ?_))))
  refine sx_retc ?_
  refine q_r (sx_ret1 Tryd.results20 rfl ?_)
  rw [padT_no (by omega)]
  exact ⟨rfl, (Chg.refl 0 0 _)⟩
 refine sx_skip ?_
 refine q_n (k2 _ _ ?_)
 refine sx_seq fun K5 k5 => ?_
 refine sx_block ?_
 have hz0 := zer_zero s
 refine sx_loop (fun mm aa w' => ∃ (j : Nat), Agr 15 [(0, .string (zer j ++ s)), (1, .int .i64 n)] aa ∧ Chg 0 0 w w' ∧ (mm = (n - ↑j).toNat) ∧ (j = 0 ∨ ((j + s.size : Nat) : Int) ≤ n)) (_) (fun a ha => ⟨0, ha.sub (Sub.c 0 rfl (.c 1 rfl .nil)), Chg.refl _ _ _, rfl, by omega⟩) ?_
 rintro mm aa wl6 ⟨j, hAwl6, cwl6, hm, hj⟩
 refine (show cw Tryd.prog 15 _ _ _ wl6 from ?_) aa hAwl6
 clear hAwl6
 have zwl6 := cwl6.size
 have hsz : (zer j ++ s).size = j + s.size := by rw [ByteArray.size_append, zer_size]
 refine sx_seq fun K7 k7 => ?_
 refine sx_seq fun K8 k8 => sx_region ?_
 refine mv rfl rfl (sp rfl (px_lenS rfl Tryd.underlying9) ?_)
 refine mv rfl rfl (sp rfl (px_lt rfl rfl) ?_)
 refine wl_nil (q_n (k8 _ _ ?_))
 refine sx_condP rfl (fun h118 => ?_) (fun h118 => ?_)
 ·
  refine sx_skip ?_
  refine q_n (k7 _ _ ?_)
  refine sx_block ?_
  refine sx_region ?_
  refine mv rfl rfl (sp rfl (px_cat rfl rfl (by (have : (⟨#[48]⟩ : ByteArray).size = 1 := rfl); rw [ByteArray.size_append, zer_size]; omega)) ?_)
  refine av rfl rfl (wl_nil ?_)
  exact q_bn (fun a ha => ⟨_, by omega, (j + 1), ha.sub (Sub.c 0 rfl (.c 1 rfl .nil)), cwl6, rfl, by omega⟩)
 refine sx_exit ?_
 refine q_e (q_e (q_bx (q_n (k5 _ _ ?_))))
 refine sx_seq fun K9 k9 => sx_region ?_
 refine mv rfl rfl (av rfl rfl (wl_nil (q_n (k9 _ _ ?_))))
 refine sx_retc ?_
 refine sx_ret1 Tryd.results20 rfl ?_
 have e : zer j ++ s = padT s n := by
  rcases Nat.eq_zero_or_pos j with h0 | h0
  · subst h0; rw [zer_zero, padT_no (by omega)]
  · rw [padT_yes (by omega)]; congr 1; congr 1; omega
 exact ⟨congrArg Value.string e, cwl6⟩

theorem c_sNatText {w : World} {va : Value} {lva uva : Nat} {zs : List Int} (hva : Sl w lva uva va (zs)) (hN : NOk zs) (hl : zs.length ≤ 60) :
  Ret Tryd.prog 21 [va] w fun v w' => v = .string (natT zs) ∧ Chg 0 0 w w' := by
 have hva0 := hva.fit
 have hz := hN.1
 refine sx_enter Tryd.func21 rfl Tryd.ntmps21 (nbl rfl) ?_
 refine sx_seq fun K1 k1 => sx_region ?_
 refine av rfl rfl (wl_nil (q_n (k1 _ _ ?_)))
 refine sx_seq fun K2 k2 => ?_
 refine sx_seq fun K3 k3 => sx_region ?_
 refine mv rfl rfl (sx_call rfl rfl Tryd.call34 (c_sNatOk hva0 (by omega)) (fun v4 w4 p4 => ?_))
 obtain ⟨rfl, c4⟩ := p4
 have zw4 := c4.size
 refine sp rfl (px_notP rfl) ?_
 refine wl_nil (q_n (k3 _ _ ?_))
 have h165 : ¬ (¬ (NOk zs)) := fun h => h hN
 refine sx_condPF rfl h165 ?_
 refine sx_skip ?_
 refine q_n (k2 _ _ ?_)
 refine sx_seq fun K5 k5 => ?_
 refine sx_seq fun K6 k6 => sx_region ?_
 refine mv rfl rfl ?_
 have f7 := hva0.ext c4
 refine sp rfl (px_len rfl Tryd.underlying22 f7) ?_
 refine sp rfl (px_eq rfl rfl) ?_
 refine wl_nil (q_n (k6 _ _ ?_))
 refine sx_condP rfl (fun h168 => ?_) (fun h168 => ?_)
 ·
  refine sx_seq fun K8 k8 => sx_region ?_
  refine av rfl rfl (wl_nil (q_n (k8 _ _ ?_)))
  refine sx_retc ?_
  refine q_r (sx_ret1 Tryd.results21 rfl ?_)
  have e : natT zs = ⟨#[48]⟩ := by unfold natT; rw [if_pos (by omega)]
  exact ⟨congrArg Value.string e.symm, c4⟩
 refine sx_skip ?_
 refine q_n (k5 _ _ ?_)
 refine sx_seq fun K9 k9 => sx_region ?_
 refine mv rfl rfl (mv rfl rfl (sp rfl (px_len rfl Tryd.underlying22 f7) ?_))
 refine sp rfl (px_sub rfl rfl (by omega)) ?_
 refine sp rfl (px_index1 (j := (zs.length - 1)) rfl rfl (by omega) Tryd.underlying22 Tryd.sizeOf3 f7 (by omega)) ?_
 refine sp rfl (px_load rfl (f7.load1 (at_int (by omega)) Tryd.isAgg3)) ?_
 refine sx_call rfl rfl Tryd.call35 (c_sIntText (by have hb := hz.getD (zs.length - 1); omega)) (fun v10 w10 p10 => ?_)
 obtain ⟨rfl, c10⟩ := p10
 have zw10 := c10.size
 refine av rfl rfl (wl_nil (q_n (k9 _ _ ?_)))
 refine sx_sub (Sub.c 0 rfl (.c 2 rfl (.c 3 rfl .nil))) ?_
 refine sx_seq fun K11 k11 => ?_
 refine sx_seq fun K12 k12 => sx_region ?_
 refine mv rfl rfl ?_
 have f13 := f7.ext c10
 refine sp rfl (px_len rfl Tryd.underlying22 f13) ?_
 refine sp rfl (px_sub rfl rfl (by omega)) ?_
 refine av rfl rfl (wl_nil (q_n (k12 _ _ ?_)))
 refine sx_block ?_
 refine sx_loop (fun mm aa w' => ∃ (k : Nat) (t : ByteArray), Agr 34 [(0, va), (3, .string t), (4, .int .i64 (↑k - 1))] aa ∧ Chg 0 0 w10 w' ∧ (mm = k) ∧ (k < zs.length) ∧ (natGo zs k t = natT zs) ∧ (t.size + 9 * k ≤ 1000)) (_) (fun a ha => ⟨(zs.length - 1), (itx ((zs).getD (zs.length - 1) 0)), ha.sub (Sub.c 0 rfl (.c 3 rfl (.c 4 (look_int (t := 4) rfl (by first | omega | simp)) .nil))), Chg.refl _ _ _, rfl, by omega, by unfold natT; rw [if_neg (by omega)], by have hb := hz.getD (zs.length - 1); have h1 := itx_size hb.1 hb.2; omega⟩) ?_
 rintro mm aa wl14 ⟨k, t, hAwl14, cwl14, hm, hk, ht, hts⟩
 refine (show cw Tryd.prog 34 _ _ _ wl14 from ?_) aa hAwl14
 clear hAwl14
 have zwl14 := cwl14.size
 have hb := hz.getD (k - 1)
 have h1 := itx_size hb.1 hb.2
 have h2 := padT_size (s := itx (zs.getD (k - 1) 0)) (n := 9) (by decide)
 refine sx_seq fun K15 k15 => ?_
 refine sx_seq fun K16 k16 => sx_region ?_
 refine mv rfl rfl (sp rfl (px_ge rfl rfl) ?_)
 refine wl_nil (q_n (k16 _ _ ?_))
 refine sx_condP rfl (fun h172 => ?_) (fun h172 => ?_)
 ·
  refine sx_skip ?_
  refine q_n (k15 _ _ ?_)
  refine sx_seq fun K17 k17 => ?_
  refine sx_block ?_
  refine sx_region ?_
  refine mv rfl rfl (mv rfl rfl (mv rfl rfl ?_))
  have f18 := f13.ext cwl14
  refine sp rfl (px_index1 (j := (k - 1)) rfl rfl (by omega) Tryd.underlying22 Tryd.sizeOf3 f18 (by omega)) ?_
  refine sp rfl (px_load rfl (f18.load1 (at_int (by omega)) Tryd.isAgg3)) ?_
  refine sx_call rfl rfl Tryd.call35 (c_sIntText (by omega)) (fun v19 w19 p19 => ?_)
  obtain ⟨rfl, c19⟩ := p19
  have zw19 := c19.size
  refine sx_call rfl rfl Tryd.call20 (c_sPad (by omega) (by omega)) (fun v20 w20 p20 => ?_)
  obtain ⟨rfl, c20⟩ := p20
  have zw20 := c20.size
  refine sp rfl (px_cat rfl rfl (by omega)) ?_
  refine av rfl rfl (wl_nil ?_)
  refine q_bn (q_n (k17 _ _ ?_))
  refine sx_region ?_
  refine mv rfl rfl (sp rfl (px_sub rfl rfl (by omega)) ?_)
  refine av rfl rfl (wl_nil ?_)
  exact fun a ha => ⟨_, by omega, (k - 1), (t ++ (padT (itx ((zs).getD (k - 1) 0)) (9 : Int))), ha.sub (Sub.c 0 rfl (.c 3 rfl (.c 4 (look_int (t := 4) rfl (by first | omega | simp)) .nil))), ((cwl14.t c19).t c20), rfl, by omega, (natGo_step (by omega)).symm.trans ht, by rw [ByteArray.size_append]; omega⟩
 refine sx_exit ?_
 refine q_e (q_e (q_bx (q_n (k11 _ _ ?_))))
 refine sx_seq fun K21 k21 => sx_region ?_
 refine mv rfl rfl (av rfl rfl (wl_nil (q_n (k21 _ _ ?_))))
 refine sx_retc ?_
 refine sx_ret1 Tryd.results21 rfl ?_
 have ek : k = 0 := by omega
 subst ek
 exact ⟨congrArg Value.string (show t = natT zs from ht), ((c4.t c10).t cwl14)⟩

theorem c_sDecText {w : World} {n1 : Bool} {v1 : Value} {lv1 uv1 : Nat} {z1 : List Int} {p1 : Int} (hv1 : Sl w lv1 uv1 v1 (z1)) (h63 : z1.length ≤ 4611686018427387904) :
  Ret Tryd.prog 11 [.agg #[.bool n1, v1, .int .i64 p1]] w fun v w' => v = .string (decT n1 z1 p1) ∧ ((decT n1 z1 p1).size ≤ 200) ∧ Chg 0 0 w w' := by
 have hv10 := hv1.fit
 refine sx_enter Tryd.func11 rfl Tryd.ntmps11 (nbl rfl) ?_
 refine sx_seq fun K1 k1 => sx_region ?_
 refine sx_box [.bool n1, v1, .int .i64 p1] rfl rfl rfl (fun b2 w3 eb2 sb2 fb2 cb2 => ?_)
 have zw3 := cb2.size
 refine av rfl rfl (wl_nil (q_n (k1 _ _ ?_)))
 refine sx_seq fun K4 k4 => ?_
 refine sx_seq fun K5 k5 => sx_region ?_
 refine sp rfl (px_load rfl (fb2.loadA (vs := [.bool n1, v1, .int .i64 p1]) (look_lit rfl) Tryd.isAgg33 Tryd.sizeOf33)) ?_
 have f6 := hv10.ext cb2
 refine sx_call rfl rfl Tryd.call18 (c_sDecOk f6 (by omega)) (fun v7 w7 p7 => ?_)
 obtain ⟨rfl, c7⟩ := p7
 have zw7 := c7.size
 refine sp rfl (px_notP rfl) ?_
 refine wl_nil (q_n (k5 _ _ ?_))
 refine sx_condP rfl (fun h32 => ?_) (fun h32 => ?_)
 ·
  refine sx_seq fun K8 k8 => sx_region ?_
  refine av rfl rfl (wl_nil (q_n (k8 _ _ ?_)))
  refine sx_retc ?_
  refine q_r (sx_ret1 Tryd.results11 rfl ?_)
  rw [decT_no h32]
  exact ⟨rfl, by decide, (cb2.t c7)⟩
 have hD := Decidable.not_not.1 h32
 have hz := hD.1.1.1
 have hl6 := hD.2.1
 have hp30 := hD.2.2
 have hns := natT_size hz
 have hps := padT_size (s := natT z1) (n := p1 + 1) (by omega)
 refine sx_skip ?_
 refine q_n (k4 _ _ ?_)
 refine sx_seq fun K9 k9 => ?_
 have f10 := fb2.ext c7
 refine dx_region (fun w' => Chg 0 0 w7 w') (by kernel_rfl) (Chg.zero (Chg.drew _)) ?_
 have d12 := Chg.drew w7
 have s12 : Chg 0 0 w7 (World.drew w7) := Chg.zero (Chg.drew _)
 have y12 : (World.drew w7).heap.size = w7.heap.size := rfl
 generalize World.drew w7 = w12 at *
 have zw12 := d12.size
 refine dt 0 rfl rfl rfl rfl s12 (fun _ hS => px_field rfl xfld33x0) ?_
 refine dt 1 rfl rfl rfl rfl s12 (fun _ hS => px_field rfl xfld31x1) ?_
 refine dt 2 rfl rfl rfl rfl s12 (fun _ hS => px_load rfl ((f10.chg hS (by omega)).load1 rfl Tryd.isAgg22)) ?_
 refine dt 4 rfl rfl rfl rfl s12 (fun _ hS => px_field rfl xfld33x1) ?_
 refine dt 5 rfl rfl rfl rfl s12 (fun _ hS => px_load rfl ((f10.chg hS (by omega)).load1 rfl Tryd.isAgg3)) ?_
 refine dt 6 rfl rfl rfl rfl s12 (fun _ hS => px_add rfl rfl (by omega)) ?_
 refine dx_eff 3 rfl (by kernel_rfl) ?_
 have f13 := (f6.ext c7).ext d12
 refine sx_call rfl rfl Tryd.call21 (c_sNatText f13 (hD.1.1) (by omega)) (fun v14 w14 p14 => ?_)
 obtain ⟨rfl, c14⟩ := p14
 have zw14 := c14.size
 have s15 : Chg 0 0 w7 w14 := (d12.t c14)
 refine wl_nil ?_
 refine dx_next s15 ?_
 refine dx_eff 7 rfl (by kernel_rfl) ?_
 refine sx_call rfl rfl Tryd.call20 (c_sPad (by omega) (by omega)) (fun v16 w16 p16 => ?_)
 obtain ⟨rfl, c16⟩ := p16
 have zw16 := c16.size
 have s17 : Chg 0 0 w7 w16 := ((d12.t c14).t c16)
 refine wl_nil ?_
 refine dx_next s17 ?_
 refine dt 8 rfl rfl rfl rfl s17 (fun _ hS => px_assign rfl) ?_
 refine dx_done (by kernel_rfl) ?_
 refine q_n (k9 _ _ ?_)
 refine sx_sub (Sub.c 1 rfl (.c 2 rfl (.c 3 rfl .nil))) ?_
 refine sx_seq fun K18 k18 => ?_
 refine sx_seq fun K19 k19 => sx_region ?_
 refine sp rfl (px_field rfl xfld33x1) ?_
 have f22 := ((f10.ext d12).ext c14).ext c16
 refine sp rfl (px_load rfl (f22.load1 rfl Tryd.isAgg3)) ?_
 refine sp rfl (px_gt rfl rfl) ?_
 refine wl_nil (q_n (k19 _ _ ?_))
 refine sx_condP rfl (fun h36 => ?_) (fun h36 => ?_)
 ·
  refine sx_seq fun K23 k23 => sx_region ?_
  refine mv rfl rfl (sp rfl (px_lenS rfl Tryd.underlying9) ?_)
  refine sp rfl (px_field rfl xfld33x1) ?_
  refine sp rfl (px_load rfl (f22.load1 rfl Tryd.isAgg3)) ?_
  refine sp rfl (px_sub rfl rfl (by omega)) ?_
  refine av rfl rfl (wl_nil (q_n (k23 _ _ ?_)))
  have f25 := (f13.ext c14).ext c16
  refine dx_region (fun w' => Chg 0 0 w16 w') (by kernel_rfl) (Chg.zero (Chg.drew _)) ?_
  have d26 := Chg.drew w16
  have s26 : Chg 0 0 w16 (World.drew w16) := Chg.zero (Chg.drew _)
  have y26 : (World.drew w16).heap.size = w16.heap.size := rfl
  generalize World.drew w16 = w26 at *
  have zw26 := d26.size
  refine dt 0 rfl rfl rfl rfl s26 (fun _ hS => px_move rfl) ?_
  refine dt 1 rfl rfl rfl rfl s26 (fun _ hS => px_move rfl) ?_
  refine dt 2 rfl rfl rfl rfl s26 (fun _ hS => px_strTo (h := ((padT (natT z1) (p1 + 1)).size - p1.toNat)) rfl rfl (by omega) Tryd.underlying9 (by omega)) ?_
  refine dt 3 rfl rfl rfl rfl s26 (fun _ hS => px_cat rfl rfl (by (have e45 : (⟨#[45]⟩ : ByteArray).size = 1 := rfl); (have e46 : (⟨#[46]⟩ : ByteArray).size = 1 := rfl); (try simp only [ByteArray.size_append, ByteArray.size_extract]); omega)) ?_
  refine dt 4 rfl rfl rfl rfl s26 (fun _ hS => px_move rfl) ?_
  refine dt 5 rfl rfl rfl rfl s26 (fun _ hS => px_move rfl) ?_
  refine dt 6 rfl rfl rfl rfl s26 (fun _ hS => px_strFrom (l := ((padT (natT z1) (p1 + 1)).size - p1.toNat)) rfl rfl (by omega) Tryd.underlying9 (by omega)) ?_
  refine dt 7 rfl rfl rfl rfl s26 (fun _ hS => px_cat rfl rfl (by (have e45 : (⟨#[45]⟩ : ByteArray).size = 1 := rfl); (have e46 : (⟨#[46]⟩ : ByteArray).size = 1 := rfl); (try simp only [ByteArray.size_append, ByteArray.size_extract]); omega)) ?_
  refine dt 8 rfl rfl rfl rfl s26 (fun _ hS => px_assign rfl) ?_
  refine dx_done (by kernel_rfl) ?_
  refine q_n (k18 _ _ ?_)
  refine sx_sub (Sub.c 1 rfl (.c 2 rfl (.c 3 rfl .nil))) ?_
  refine sx_seq fun K27 k27 => ?_
  refine sx_seq fun K28 k28 => sx_region ?_
  refine sp rfl (px_field rfl xfld33x0) ?_
  refine sp rfl (px_field rfl xfld31x0) ?_
  have f29 := f22.ext d26
  refine sp rfl (px_load rfl (f29.load1 rfl Tryd.isAgg4)) ?_
  refine wl_nil (q_n (k28 _ _ ?_))
  refine sx_condB rfl (fun h40 => ?_) (fun h40 => ?_)
  ·
   refine sx_seq fun K30 k30 => sx_region ?_
   refine mv rfl rfl (sp rfl (px_cat rfl rfl (by (have e45 : (⟨#[45]⟩ : ByteArray).size = 1 := rfl); (have e46 : (⟨#[46]⟩ : ByteArray).size = 1 := rfl); (try simp only [ByteArray.size_append, ByteArray.size_extract]); omega)) ?_)
   refine av rfl rfl (wl_nil (q_n (k30 _ _ ?_)))
   refine sx_retc ?_
   refine q_r (sx_ret1 Tryd.results11 rfl ?_)
   have e : (⟨#[45]⟩) ++ ((((padT (natT z1) (p1 + 1)).extract 0 ((padT (natT z1) (p1 + 1)).size - p1.toNat)) ++ (⟨#[46]⟩)) ++ ((padT (natT z1) (p1 + 1)).extract ((padT (natT z1) (p1 + 1)).size - p1.toNat) (padT (natT z1) (p1 + 1)).size)) = decT n1 z1 p1 := by unfold decT sgT ptT; rw [if_pos hD]; simp [h36, h40]
   exact ⟨congrArg Value.string e, by rw [← e]; (try simp only [ByteArray.size_append, ByteArray.size_extract]); (try have e45 : (⟨#[45]⟩ : ByteArray).size = 1 := rfl); (try have e46 : (⟨#[46]⟩ : ByteArray).size = 1 := rfl); omega, (((((cb2.t c7).t d12).t c14).t c16).t d26)⟩
  refine sx_skip ?_
  refine q_n (k27 _ _ ?_)
  refine sx_seq fun K31 k31 => sx_region ?_
  refine mv rfl rfl (av rfl rfl (wl_nil (q_n (k31 _ _ ?_))))
  refine sx_retc ?_
  refine sx_ret1 Tryd.results11 rfl ?_
  have e : (((padT (natT z1) (p1 + 1)).extract 0 ((padT (natT z1) (p1 + 1)).size - p1.toNat)) ++ (⟨#[46]⟩)) ++ ((padT (natT z1) (p1 + 1)).extract ((padT (natT z1) (p1 + 1)).size - p1.toNat) (padT (natT z1) (p1 + 1)).size) = decT n1 z1 p1 := by unfold decT sgT ptT; rw [if_pos hD]; simp [h36, h40]
  exact ⟨congrArg Value.string e, by rw [← e]; (try simp only [ByteArray.size_append, ByteArray.size_extract]); (try have e45 : (⟨#[45]⟩ : ByteArray).size = 1 := rfl); (try have e46 : (⟨#[46]⟩ : ByteArray).size = 1 := rfl); omega, (((((cb2.t c7).t d12).t c14).t c16).t d26)⟩
 refine sx_skip ?_
 refine q_n (k18 _ _ ?_)
 refine sx_seq fun K32 k32 => ?_
 refine sx_seq fun K33 k33 => sx_region ?_
 refine sp rfl (px_field rfl xfld33x0) ?_
 refine sp rfl (px_field rfl xfld31x0) ?_
 refine sp rfl (px_load rfl (f22.load1 rfl Tryd.isAgg4)) ?_
 refine wl_nil (q_n (k33 _ _ ?_))
 refine sx_condB rfl (fun h40 => ?_) (fun h40 => ?_)
 ·
  refine sx_seq fun K34 k34 => sx_region ?_
  refine mv rfl rfl (sp rfl (px_cat rfl rfl (by (have e45 : (⟨#[45]⟩ : ByteArray).size = 1 := rfl); (have e46 : (⟨#[46]⟩ : ByteArray).size = 1 := rfl); (try simp only [ByteArray.size_append, ByteArray.size_extract]); omega)) ?_)
  refine av rfl rfl (wl_nil (q_n (k34 _ _ ?_)))
  refine sx_retc ?_
  refine q_r (sx_ret1 Tryd.results11 rfl ?_)
  have e : (⟨#[45]⟩) ++ (padT (natT z1) (p1 + 1)) = decT n1 z1 p1 := by unfold decT sgT ptT; rw [if_pos hD]; simp [h36, h40]
  exact ⟨congrArg Value.string e, by rw [← e]; (try simp only [ByteArray.size_append, ByteArray.size_extract]); (try have e45 : (⟨#[45]⟩ : ByteArray).size = 1 := rfl); (try have e46 : (⟨#[46]⟩ : ByteArray).size = 1 := rfl); omega, ((((cb2.t c7).t d12).t c14).t c16)⟩
 refine sx_skip ?_
 refine q_n (k32 _ _ ?_)
 refine sx_seq fun K35 k35 => sx_region ?_
 refine mv rfl rfl (av rfl rfl (wl_nil (q_n (k35 _ _ ?_))))
 refine sx_retc ?_
 refine sx_ret1 Tryd.results11 rfl ?_
 have e : padT (natT z1) (p1 + 1) = decT n1 z1 p1 := by unfold decT sgT ptT; rw [if_pos hD]; simp [h36, h40]
 exact ⟨congrArg Value.string e, by rw [← e]; (try simp only [ByteArray.size_append, ByteArray.size_extract]); (try have e45 : (⟨#[45]⟩ : ByteArray).size = 1 := rfl); (try have e46 : (⟨#[46]⟩ : ByteArray).size = 1 := rfl); omega, ((((cb2.t c7).t d12).t c14).t c16)⟩

theorem c_sRateText {w : World} {f1 : ByteArray} {t1 : ByteArray} {n1 : Bool} {v1 : Value} {lv1 uv1 : Nat} {z1 : List Int} {p1 : Int} (hv1 : Sl w lv1 uv1 v1 (z1)) (h63 : z1.length ≤ 4611686018427387904) :
  Ret Tryd.prog 5 [.agg #[.string f1, .string t1, .bool n1, v1, .int .i64 p1]] w fun v w' => v = .string (ratT f1 t1 n1 z1 p1) ∧ Chg 0 0 w w' := by
 have hv10 := hv1.fit
 refine sx_enter Tryd.func5 rfl Tryd.ntmps5 (nbl rfl) ?_
 refine sx_seq fun K1 k1 => sx_region ?_
 refine sx_box [.string f1, .string t1, .bool n1, v1, .int .i64 p1] rfl rfl rfl (fun b2 w3 eb2 sb2 fb2 cb2 => ?_)
 have zw3 := cb2.size
 refine av rfl rfl (wl_nil (q_n (k1 _ _ ?_)))
 refine sx_seq fun K4 k4 => ?_
 refine sx_seq fun K5 k5 => sx_region ?_
 refine sp rfl (px_load rfl (fb2.loadA (vs := [.string f1, .string t1, .bool n1, v1, .int .i64 p1]) (look_lit rfl) Tryd.isAgg35 Tryd.sizeOf35)) ?_
 have f6 := hv10.ext cb2
 refine sx_call rfl rfl Tryd.call10 (c_sRateOk f6 (by omega)) (fun v7 w7 p7 => ?_)
 obtain ⟨rfl, c7⟩ := p7
 have zw7 := c7.size
 refine sp rfl (px_notP rfl) ?_
 refine wl_nil (q_n (k5 _ _ ?_))
 refine sx_condP rfl (fun h130 => ?_) (fun h130 => ?_)
 ·
  refine sx_seq fun K8 k8 => sx_region ?_
  refine av rfl rfl (wl_nil (q_n (k8 _ _ ?_)))
  refine sx_retc ?_
  refine q_r (sx_ret1 Tryd.results5 rfl ?_)
  rw [ratT_no h130]
  exact ⟨rfl, (cb2.t c7)⟩
 have hM := Decidable.not_not.1 h130
 have hks := known_size hM.1
 have hks2 := known_size hM.2.1
 refine sx_skip ?_
 refine q_n (k4 _ _ ?_)
 refine sx_seq fun K9 k9 => ?_
 have f10 := fb2.ext c7
 refine dx_region (fun w' => Chg 0 0 w7 w') (by kernel_rfl) (Chg.zero (Chg.drew _)) ?_
 have d12 := Chg.drew w7
 have s12 : Chg 0 0 w7 (World.drew w7) := Chg.zero (Chg.drew _)
 have y12 : (World.drew w7).heap.size = w7.heap.size := rfl
 generalize World.drew w7 = w12 at *
 have zw12 := d12.size
 refine dt 0 rfl rfl rfl rfl s12 (fun _ hS => px_field rfl xfld35x0) ?_
 refine dt 1 rfl rfl rfl rfl s12 (fun _ hS => px_load rfl ((f10.chg hS (by omega)).load1 rfl Tryd.isAgg9)) ?_
 refine dt 2 rfl rfl rfl rfl s12 (fun _ hS => px_cat rfl rfl (by (have e32 : (⟨#[32]⟩ : ByteArray).size = 1 := rfl); (try simp only [ByteArray.size_append]); omega)) ?_
 refine dt 3 rfl rfl rfl rfl s12 (fun _ hS => px_field rfl xfld35x1) ?_
 refine dt 4 rfl rfl rfl rfl s12 (fun _ hS => px_load rfl ((f10.chg hS (by omega)).load1 rfl Tryd.isAgg9)) ?_
 refine dt 5 rfl rfl rfl rfl s12 (fun _ hS => px_cat rfl rfl (by (have e32 : (⟨#[32]⟩ : ByteArray).size = 1 := rfl); (try simp only [ByteArray.size_append]); omega)) ?_
 refine dt 6 rfl rfl rfl rfl s12 (fun _ hS => px_cat rfl rfl (by (have e32 : (⟨#[32]⟩ : ByteArray).size = 1 := rfl); (try simp only [ByteArray.size_append]); omega)) ?_
 refine dt 7 rfl rfl rfl rfl s12 (fun _ hS => px_field rfl xfld35x2) ?_
 refine dt 8 rfl rfl rfl rfl s12 (fun _ hS => px_load rfl ((f10.chg hS (by omega)).loadA (vs := [.bool n1, v1, .int .i64 p1]) (look_lit rfl) Tryd.isAgg33 Tryd.sizeOf33)) ?_
 refine dx_eff 9 rfl (by kernel_rfl) ?_
 have f13 := (f6.ext c7).ext d12
 refine sx_call rfl rfl Tryd.call11 (c_sDecText f13 (by omega)) (fun v14 w14 p14 => ?_)
 obtain ⟨rfl, hsz14, c14⟩ := p14
 have zw14 := c14.size
 have s15 : Chg 0 0 w7 w14 := (d12.t c14)
 refine wl_nil ?_
 refine dx_next s15 ?_
 refine dt 10 rfl rfl rfl rfl s15 (fun _ hS => px_cat rfl rfl (by (have e32 : (⟨#[32]⟩ : ByteArray).size = 1 := rfl); (try simp only [ByteArray.size_append]); omega)) ?_
 refine dt 11 rfl rfl rfl rfl s15 (fun _ hS => px_assign rfl) ?_
 refine dx_done (by kernel_rfl) ?_
 refine q_n (k9 _ _ ?_)
 refine sx_sub (Sub.c 2 rfl .nil) ?_
 refine sx_retc ?_
 refine sx_ret1 Tryd.results5 rfl ?_
 rw [ratT_ok hM]
 exact ⟨rfl, (((cb2.t c7).t d12).t c14)⟩

theorem c_currencyOf {w : World} {s : ByteArray} (hG0 : Glob w) :
  Ret Tryd.prog 37 [.string s] w fun v w' => v = .tuple #[.agg #[.string ((curOf s).code), .string ((curOf s).number), .int .i64 ((curOf s).places), .int .i64 ((curOf s).cash)], .bool (decide (Known s))] ∧ Chg 0 0 w w' := by
 refine sx_enter Tryd.func37 rfl Tryd.ntmps37 (nbl rfl) ?_
 refine sx_seq fun K1 k1 => sx_region ?_
 refine sx_alloc [.string (⟨#[]⟩), .string (⟨#[]⟩), .int .i64 0, .int .i64 0] rfl Tryd.zeroValue63 rfl (fun b2 w3 eb2 sb2 fb2 cb2 => ?_)
 have zw3 := cb2.size
 refine av rfl rfl (wl_nil (q_n (k1 _ _ ?_)))
 refine sx_seq fun K4 k4 => ?_
 refine sx_seq fun K5 k5 => sx_region ?_
 have f6 := hG0.ext cb2
 refine sp rfl (px_load rfl (Glob.load f6 Tryd.isAgg72 Tryd.sizeOf72)) ?_
 refine mv rfl rfl (wl_nil (q_n (k5 _ _ ?_)))
 refine sx_block ?_
 refine sx_loop (fun mm aa w' => ∃ (k : Nat), Agr 17 [(0, .string s), (2, .pointer (some ⟨b2, 0, none⟩)), (6, .agg (crCells tabI).toArray), (7, .int .i64 ↑k)] aa ∧ Chg 0 0 w3 w' ∧ (mm = 20 - k) ∧ (k ≤ 20) ∧ (∀ i, i < k → ¬ (tabI.getD i cr0).code = s)) (20) (fun a ha => ⟨0, ha.sub (Sub.c 0 rfl (.c 2 rfl (.c 6 rfl (.c 7 (look_int (t := 7) rfl (by first | omega | simp)) .nil)))), Chg.refl _ _ _, rfl, by omega, fun i h => by omega⟩) ?_
 rintro mm aa wl7 ⟨k, hAwl7, cwl7, hm, hk, hn⟩
 refine (show cw Tryd.prog 17 _ _ _ wl7 from ?_) aa hAwl7
 clear hAwl7
 have zwl7 := cwl7.size
 refine sx_seq fun K8 k8 => sx_region ?_
 refine sp rfl (px_lt rfl rfl) ?_
 refine wl_nil (q_n (k8 _ _ ?_))
 refine sx_seq fun K9 k9 => ?_
 refine sx_condP rfl (fun h39 => ?_) (fun h39 => ?_)
 ·
  refine sx_skip ?_
  refine q_n (k9 _ _ ?_)
  refine sx_seq fun K10 k10 => ?_
  refine sx_block ?_
  refine sx_seq fun K11 k11 => sx_region ?_
  refine sp rfl (px_indexCr (l := tabI) (j := k) rfl rfl (by omega) Tryd.underlying72 rfl Tryd.sizeOf63 Tryd.isAgg63 (by rw [show tabI.length = 20 from rfl]; omega)) ?_
  refine sx_alloc [.string (⟨#[]⟩), .string (⟨#[]⟩), .int .i64 0, .int .i64 0] rfl Tryd.zeroValue63 rfl (fun b12 w13 eb12 sb12 fb12 cb12 => ?_)
  have zw13 := cb12.size
  refine sx_store (vs := [.string ((tabI.getD k cr0).code), .string ((tabI.getD k cr0).number), .int .i64 ((tabI.getD k cr0).places), .int .i64 ((tabI.getD k cr0).cash)]) rfl rfl fb12 rfl Tryd.sizeOf63 (nbl rfl) (one_cons rfl (o3 rfl rfl rfl)) (fun w14 sw14 fw14 cw14 => ?_)
  have zw14 := cw14.size
  have gw14 : Blk w14 b12 [.string ((tabI.getD k cr0).code), .string ((tabI.getD k cr0).number), .int .i64 ((tabI.getD k cr0).places), .int .i64 ((tabI.getD k cr0).cash)] 63 := fw14
  refine wl_nil (q_n (k11 _ _ ?_))
  refine sx_seq fun K15 k15 => sx_region ?_
  refine sp rfl (px_field rfl xfld63x0) ?_
  refine sp rfl (px_load rfl (gw14.load1 rfl Tryd.isAgg9)) ?_
  refine mv rfl rfl (sp rfl (px_eqS rfl rfl) ?_)
  refine wl_nil (q_n (k15 _ _ ?_))
  refine sx_condP rfl (fun h40 => ?_) (fun h40 => ?_)
  ·
   refine sx_seq fun K16 k16 => sx_region ?_
   refine sp rfl (px_load rfl (gw14.loadA (vs := [.string ((tabI.getD k cr0).code), .string ((tabI.getD k cr0).number), .int .i64 ((tabI.getD k cr0).places), .int .i64 ((tabI.getD k cr0).cash)]) (look_lit rfl) Tryd.isAgg63 Tryd.sizeOf63)) ?_
   have f18 := fb2.ext cwl7
   have f19 := f18.ext cb12
   have f20 := f19.chg cw14 (by omega)
   refine sx_store (vs := [.string ((tabI.getD k cr0).code), .string ((tabI.getD k cr0).number), .int .i64 ((tabI.getD k cr0).places), .int .i64 ((tabI.getD k cr0).cash)]) rfl rfl f20 rfl Tryd.sizeOf63 (nbl rfl) (one_cons rfl (o3 rfl rfl rfl)) (fun w17 sw17 fw17 cw17 => ?_)
   have zw17 := cw17.size
   have gw17 : Blk w17 b2 [.string ((tabI.getD k cr0).code), .string ((tabI.getD k cr0).number), .int .i64 ((tabI.getD k cr0).places), .int .i64 ((tabI.getD k cr0).cash)] 63 := fw17
   refine av rfl rfl (wl_nil (q_n (k16 _ _ ?_)))
   refine sx_retc ?_
   refine q_br (q_r (q_r (q_br (q_r (sx_ret2 Tryd.results37 ⟨_, rfl, gw17.loadA (vs := [.string ((tabI.getD k cr0).code), .string ((tabI.getD k cr0).number), .int .i64 ((tabI.getD k cr0).places), .int .i64 ((tabI.getD k cr0).cash)]) (look_lit rfl) Tryd.isAgg63 Tryd.sizeOf63⟩ rfl ?_)))))
   have e := curOf_some (by rw [show tabI.length = 20 from rfl]; omega) hn h40
   have e2 := known_some (by rw [show tabI.length = 20 from rfl]; omega) hn h40
   rw [e]
   have q21 := Chg.step (l := 0) (h := 0) (Chg.zero (l := 0) (h := 0) ((cb2.t cwl7).t cb12)) cw14 (by omega)
   have q22 := Chg.step (l := 0) (h := 0) q21 cw17 (by omega)
   exact ⟨by simp [e2], q22⟩
  refine sx_skip ?_
  refine q_bn (q_n (k10 _ _ ?_))
  refine sx_region ?_
  refine sp rfl (px_add rfl rfl (by omega)) ?_
  refine mv rfl rfl (wl_nil ?_)
  have q23 := Chg.step (l := 0) (h := 0) (Chg.zero (l := 0) (h := 0) (cwl7.t cb12)) cw14 (by omega)
  exact fun a ha => ⟨_, by omega, (k + 1), ha.sub (Sub.c 0 rfl (.c 2 rfl (.c 6 rfl (.c 7 (look_int (t := 7) rfl (by first | omega | simp)) .nil)))), q23, rfl, by omega, upto_succ hn h40⟩
 refine sx_exit ?_
 refine q_e (q_e (q_bx (q_n (k4 _ _ ?_))))
 refine sx_seq fun K24 k24 => sx_region ?_
 refine sp rfl (px_build rfl (xbld63x  _)) ?_
 have f26 := fb2.ext cwl7
 refine sx_store (vs := [.string (⟨#[]⟩), .string (⟨#[]⟩), .int .i64 0, .int .i64 0]) rfl rfl f26 rfl Tryd.sizeOf63 (nbl rfl) (one_cons rfl (o3 rfl rfl rfl)) (fun w25 sw25 fw25 cw25 => ?_)
 have zw25 := cw25.size
 have gw25 : Blk w25 b2 [.string (⟨#[]⟩), .string (⟨#[]⟩), .int .i64 0, .int .i64 0] 63 := fw25
 refine av rfl rfl (wl_nil (q_n (k24 _ _ ?_)))
 refine sx_retc ?_
 refine sx_ret2 Tryd.results37 ⟨_, rfl, gw25.loadA (vs := [.string (⟨#[]⟩), .string (⟨#[]⟩), .int .i64 0, .int .i64 0]) (look_lit rfl) Tryd.isAgg63 Tryd.sizeOf63⟩ rfl ?_
 have e := curOf_none (s := s) (fun i hi => hn i (by rw [show tabI.length = 20 from rfl] at hi; omega))
 have e2 := known_none (s := s) (fun i hi => hn i (by rw [show tabI.length = 20 from rfl] at hi; omega))
 rw [e]
 have q27 := Chg.step (l := 0) (h := 0) (Chg.zero (l := 0) (h := 0) (cb2.t cwl7)) cw25 (by omega)
 exact ⟨by simp [e2, cr0], q27⟩

theorem c_iCurKnown {w : World} {s : ByteArray} (hG0 : Glob w) :
  Ret Tryd.prog 23 [.string s] w fun v w' => v = .bool (decide (Known s)) ∧ Chg 0 0 w w' := by
 refine sx_enter Tryd.func23 rfl Tryd.ntmps23 (nbl rfl) ?_
 refine sx_seq fun K1 k1 => sx_region ?_
 refine av rfl rfl (wl_nil (q_n (k1 _ _ ?_)))
 refine sx_seq fun K2 k2 => sx_region ?_
 refine mv rfl rfl (sx_call rfl rfl Tryd.call37 (c_currencyOf hG0) (fun v3 w3 p3 => ?_))
 obtain ⟨rfl, c3⟩ := p3
 have zw3 := c3.size
 refine mv rfl rfl (sp rfl (px_ex2 rfl rfl) ?_)
 refine sp rfl (px_ex2 rfl rfl) ?_
 refine sx_alloc [.string (⟨#[]⟩), .string (⟨#[]⟩), .int .i64 0, .int .i64 0] rfl Tryd.zeroValue63 rfl (fun b4 w5 eb4 sb4 fb4 cb4 => ?_)
 have zw5 := cb4.size
 refine sx_store (vs := [.string ((curOf s).code), .string ((curOf s).number), .int .i64 ((curOf s).places), .int .i64 ((curOf s).cash)]) rfl rfl fb4 rfl Tryd.sizeOf63 (nbl rfl) (one_cons rfl (o3 rfl rfl rfl)) (fun w6 sw6 fw6 cw6 => ?_)
 have zw6 := cw6.size
 have gw6 : Blk w6 b4 [.string ((curOf s).code), .string ((curOf s).number), .int .i64 ((curOf s).places), .int .i64 ((curOf s).cash)] 63 := fw6
 refine av rfl rfl (wl_nil (q_n (k2 _ _ ?_)))
 refine sx_seq fun K7 k7 => sx_region ?_
 refine mv rfl rfl (av rfl rfl (wl_nil (q_n (k7 _ _ ?_))))
 refine sx_retc ?_
 refine sx_ret1 Tryd.results23 rfl ?_
 have q8 := Chg.step (l := 0) (h := 0) (Chg.zero (l := 0) (h := 0) (c3.t cb4)) cw6 (by omega)
 exact ⟨rfl, q8⟩

theorem c_iNatOk {w : World} {va : Value} {lva uva : Nat} {zs : List Int} (hva : Sl w lva uva va (zs)) (h63 : zs.length ≤ 4611686018427387904) :
  Ret Tryd.prog 45 [va] w fun v w' => v = .bool (decide (NOk zs)) ∧ Chg 0 0 w w' := by
 have hva0 := hva.fit
 refine sx_enter Tryd.func45 rfl Tryd.ntmps45 (nbl rfl) ?_
 refine sx_seq fun K1 k1 => sx_region ?_
 refine av rfl rfl (wl_nil (q_n (k1 _ _ ?_)))
 refine sx_seq fun K2 k2 => ?_
 refine sx_seq fun K3 k3 => sx_region ?_
 refine mv rfl rfl (sp rfl (px_len rfl Tryd.underlying22 hva0) ?_)
 refine sp rfl (px_gt rfl rfl) ?_
 refine mv rfl rfl ?_
 refine sx_tmpP (t := 8) rfl (fun h13 => ?_) (fun h13 => ?_)
 ·
  refine sx_guardF rfl rfl rfl rfl rfl rfl ?_
  refine sx_guardF rfl rfl rfl rfl rfl rfl ?_
  refine sx_guardF rfl rfl rfl rfl rfl rfl ?_
  refine sx_guardF rfl rfl rfl rfl rfl rfl ?_
  refine sx_guardFU rfl rfl rfl rfl rfl ?_
  refine sx_guardFU rfl rfl rfl rfl rfl ?_
  refine sx_guardFU rfl rfl rfl rfl rfl ?_
  refine sx_guardFU rfl rfl rfl rfl rfl ?_
  refine sx_guardFU rfl rfl rfl rfl rfl ?_
  refine sx_guardFU rfl rfl rfl rfl rfl ?_
  refine sx_guardFU rfl rfl rfl rfl rfl ?_
  refine sx_guardF rfl rfl rfl rfl rfl rfl ?_
  refine sp rfl (px_pick rfl rfl) ?_
  refine wl_nil (q_n (k3 _ _ ?_))
  refine sx_sub (Sub.c 0 rfl (.c 2 rfl (.c 21 rfl .nil))) ?_
  refine sx_condT rfl ?_
  refine sx_seq fun K4 k4 => sx_region ?_
  refine av rfl rfl (wl_nil (q_n (k4 _ _ ?_)))
  refine sx_retc ?_
  refine q_r (sx_ret1 Tryd.results45 rfl ?_)
  exact ⟨bFalse (fun h => by first | (have h1 := h.2.1; omega) | exact h.2.2 ((last_getD (by omega)).2 (by assumption))), (Chg.refl 0 0 _)⟩
 refine sx_guardT rfl rfl rfl ?_
 refine mv rfl rfl ?_
 refine sx_guardT rfl rfl rfl ?_
 refine sp rfl (px_len rfl Tryd.underlying22 hva0) ?_
 refine sx_guardT rfl rfl rfl ?_
 refine sp rfl (px_gt rfl rfl) ?_
 refine sx_guardT rfl rfl rfl ?_
 refine mv rfl rfl ?_
 refine sx_tmpP (t := 12) rfl (fun h13x1 => ?_) (fun h13x1 => ?_)
 ·
  refine sx_guardT rfl rfl rfl ?_
  refine mv rfl rfl ?_
  refine sx_guardT rfl rfl rfl ?_
  refine mv rfl rfl ?_
  refine sx_guardT rfl rfl rfl ?_
  refine sp rfl (px_len rfl Tryd.underlying22 hva0) ?_
  refine sx_guardT rfl rfl rfl ?_
  refine sp rfl (px_sub rfl rfl (by omega)) ?_
  refine sx_guardT rfl rfl rfl ?_
  refine sp rfl (px_index1 (j := (zs.length - 1)) rfl rfl (by omega) Tryd.underlying22 Tryd.sizeOf3 hva0 (by omega)) ?_
  refine sx_guardT rfl rfl rfl ?_
  refine sp rfl (px_load rfl (hva0.load1 (at_int (by omega)) Tryd.isAgg3)) ?_
  refine sx_guardT rfl rfl rfl ?_
  refine sp rfl (px_eq rfl rfl) ?_
  refine sx_guardT rfl rfl rfl ?_
  refine sp rfl (px_pick rfl rfl) ?_
  refine sp rfl (px_pick rfl rfl) ?_
  refine wl_nil (q_n (k3 _ _ ?_))
  refine sx_sub (Sub.c 0 rfl (.c 2 rfl (.c 21 rfl .nil))) ?_
  refine sx_condP rfl (fun h13x2 => ?_) (fun h13x2 => ?_)
  ·
   refine sx_seq fun K5 k5 => sx_region ?_
   refine av rfl rfl (wl_nil (q_n (k5 _ _ ?_)))
   refine sx_retc ?_
   refine q_r (sx_ret1 Tryd.results45 rfl ?_)
   exact ⟨bFalse (fun h => by first | (have h1 := h.2.1; omega) | exact h.2.2 ((last_getD (by omega)).2 (by assumption))), (Chg.refl 0 0 _)⟩
  refine sx_skip ?_
  refine q_n (k2 _ _ ?_)
  refine sx_seq fun K6 k6 => ?_
  refine sx_seq fun K7 k7 => sx_region ?_
  refine mv rfl rfl (sp rfl (px_len rfl Tryd.underlying22 hva0) ?_)
  refine mv rfl rfl (wl_nil (q_n (k7 _ _ ?_)))
  refine sx_block ?_
  refine sx_loop (fun mm aa w' => ∃ (k : Nat), Agr 35 [(22, va), (23, .int .i64 ↑zs.length), (24, .int .i64 ↑k)] aa ∧ Chg 0 0 w w' ∧ (mm = zs.length - k) ∧ (k ≤ zs.length) ∧ (∀ i, i < k → 0 ≤ zs.getD i 0 ∧ zs.getD i 0 < 1000000000)) (_) (fun a ha => ⟨0, ha.sub (Sub.c 22 rfl (.c 23 (look_int (t := 23) rfl (by first | omega | simp)) (.c 24 (look_int (t := 24) rfl (by first | omega | simp)) .nil))), Chg.refl _ _ _, rfl, by omega, fun i h => by omega⟩) ?_
  rintro mm aa wl8 ⟨k, hAwl8, cwl8, hm, hk, hall⟩
  refine (show cw Tryd.prog 35 _ _ _ wl8 from ?_) aa hAwl8
  clear hAwl8
  have zwl8 := cwl8.size
  refine sx_seq fun K9 k9 => sx_region ?_
  refine sp rfl (px_lt rfl rfl) ?_
  refine wl_nil (q_n (k9 _ _ ?_))
  refine sx_seq fun K10 k10 => ?_
  refine sx_condP rfl (fun h16 => ?_) (fun h16 => ?_)
  ·
   refine sx_skip ?_
   refine q_n (k10 _ _ ?_)
   refine sx_seq fun K11 k11 => ?_
   refine sx_block ?_
   refine sx_seq fun K12 k12 => sx_region ?_
   have f13 := hva0.ext cwl8
   refine sp rfl (px_index1 (j := k) rfl rfl (by omega) Tryd.underlying22 Tryd.sizeOf3 f13 (by omega)) ?_
   refine sp rfl (px_load rfl (f13.load1 (at_int (by omega)) Tryd.isAgg3)) ?_
   refine av rfl rfl (wl_nil (q_n (k12 _ _ ?_)))
   refine sx_seq fun K14 k14 => sx_region ?_
   refine mv rfl rfl (sp rfl (px_lt rfl rfl) ?_)
   refine mv rfl rfl ?_
   refine sx_tmpP (t := 30) rfl (fun h17 => ?_) (fun h17 => ?_)
   ·
    refine sx_guardF rfl rfl rfl rfl rfl rfl ?_
    refine sx_guardF rfl rfl rfl rfl rfl rfl ?_
    refine sp rfl (px_pick rfl rfl) ?_
    refine wl_nil (q_n (k14 _ _ ?_))
    refine sx_condT rfl ?_
    refine sx_seq fun K15 k15 => sx_region ?_
    refine av rfl rfl (wl_nil (q_n (k15 _ _ ?_)))
    refine sx_retc ?_
    refine q_br (q_r (q_r (q_br (q_r (sx_ret1 Tryd.results45 rfl ?_)))))
    exact ⟨bFalse (fun h => by have h1 := h.1.getD k; omega), cwl8⟩
   refine sx_guardT rfl rfl rfl ?_
   refine mv rfl rfl ?_
   refine sx_guardT rfl rfl rfl ?_
   refine sp rfl (px_ge rfl rfl) ?_
   refine sp rfl (px_pick rfl rfl) ?_
   refine wl_nil (q_n (k14 _ _ ?_))
   refine sx_condP rfl (fun h17x1 => ?_) (fun h17x1 => ?_)
   ·
    refine sx_seq fun K16 k16 => sx_region ?_
    refine av rfl rfl (wl_nil (q_n (k16 _ _ ?_)))
    refine sx_retc ?_
    refine q_br (q_r (q_r (q_br (q_r (sx_ret1 Tryd.results45 rfl ?_)))))
    exact ⟨bFalse (fun h => by have h1 := h.1.getD k; omega), cwl8⟩
   refine sx_skip ?_
   refine q_bn (q_n (k11 _ _ ?_))
   refine sx_region ?_
   refine sp rfl (px_add rfl rfl (by omega)) ?_
   refine mv rfl rfl (wl_nil ?_)
   exact fun a ha => ⟨_, by omega, (k + 1), ha.sub (Sub.c 22 rfl (.c 23 rfl (.c 24 (look_int (t := 24) rfl (by first | omega | simp)) .nil))), cwl8, rfl, by omega, lm_succ hall (by omega)⟩
  refine sx_exit ?_
  refine q_e (q_e (q_bx (q_n (k6 _ _ ?_))))
  refine sx_seq fun K17 k17 => sx_region ?_
  refine av rfl rfl (wl_nil (q_n (k17 _ _ ?_)))
  refine sx_retc ?_
  refine sx_ret1 Tryd.results45 rfl ?_
  have ek : k = zs.length := by omega
  have hz : Lm zs := lm_mem (by rw [← ek]; exact hall)
  exact ⟨bTrue (NOk_mk hz (by omega) (by first | exact .inl (by omega) | exact .inr (by assumption))), cwl8⟩
 refine sx_guardF rfl rfl rfl rfl rfl rfl ?_
 refine sx_guardF rfl rfl rfl rfl rfl rfl ?_
 refine sx_guardF rfl rfl rfl rfl rfl rfl ?_
 refine sx_guardF rfl rfl rfl rfl rfl rfl ?_
 refine sx_guardF rfl rfl rfl rfl rfl rfl ?_
 refine sx_guardF rfl rfl rfl rfl rfl rfl ?_
 refine sx_guardF rfl rfl rfl rfl rfl rfl ?_
 refine sx_guardT rfl rfl rfl ?_
 refine sp rfl (px_pick rfl rfl) ?_
 refine sp rfl (px_pick rfl rfl) ?_
 refine wl_nil (q_n (k3 _ _ ?_))
 refine sx_sub (Sub.c 0 rfl (.c 2 rfl (.c 21 rfl .nil))) ?_
 refine sx_condF rfl ?_
 refine sx_skip ?_
 refine q_n (k2 _ _ ?_)
 refine sx_seq fun K18 k18 => ?_
 refine sx_seq fun K19 k19 => sx_region ?_
 refine mv rfl rfl (sp rfl (px_len rfl Tryd.underlying22 hva0) ?_)
 refine mv rfl rfl (wl_nil (q_n (k19 _ _ ?_)))
 refine sx_block ?_
 refine sx_loop (fun mm aa w' => ∃ (k : Nat), Agr 35 [(22, va), (23, .int .i64 ↑zs.length), (24, .int .i64 ↑k)] aa ∧ Chg 0 0 w w' ∧ (mm = zs.length - k) ∧ (k ≤ zs.length) ∧ (∀ i, i < k → 0 ≤ zs.getD i 0 ∧ zs.getD i 0 < 1000000000)) (_) (fun a ha => ⟨0, ha.sub (Sub.c 22 rfl (.c 23 (look_int (t := 23) rfl (by first | omega | simp)) (.c 24 (look_int (t := 24) rfl (by first | omega | simp)) .nil))), Chg.refl _ _ _, rfl, by omega, fun i h => by omega⟩) ?_
 rintro mm aa wl20 ⟨k, hAwl20, cwl20, hm, hk, hall⟩
 refine (show cw Tryd.prog 35 _ _ _ wl20 from ?_) aa hAwl20
 clear hAwl20
 have zwl20 := cwl20.size
 refine sx_seq fun K21 k21 => sx_region ?_
 refine sp rfl (px_lt rfl rfl) ?_
 refine wl_nil (q_n (k21 _ _ ?_))
 refine sx_seq fun K22 k22 => ?_
 refine sx_condP rfl (fun h16 => ?_) (fun h16 => ?_)
 ·
  refine sx_skip ?_
  refine q_n (k22 _ _ ?_)
  refine sx_seq fun K23 k23 => ?_
  refine sx_block ?_
  refine sx_seq fun K24 k24 => sx_region ?_
  have f25 := hva0.ext cwl20
  refine sp rfl (px_index1 (j := k) rfl rfl (by omega) Tryd.underlying22 Tryd.sizeOf3 f25 (by omega)) ?_
  refine sp rfl (px_load rfl (f25.load1 (at_int (by omega)) Tryd.isAgg3)) ?_
  refine av rfl rfl (wl_nil (q_n (k24 _ _ ?_)))
  refine sx_seq fun K26 k26 => sx_region ?_
  refine mv rfl rfl (sp rfl (px_lt rfl rfl) ?_)
  refine mv rfl rfl ?_
  refine sx_tmpP (t := 30) rfl (fun h17 => ?_) (fun h17 => ?_)
  ·
   refine sx_guardF rfl rfl rfl rfl rfl rfl ?_
   refine sx_guardF rfl rfl rfl rfl rfl rfl ?_
   refine sp rfl (px_pick rfl rfl) ?_
   refine wl_nil (q_n (k26 _ _ ?_))
   refine sx_condT rfl ?_
   refine sx_seq fun K27 k27 => sx_region ?_
   refine av rfl rfl (wl_nil (q_n (k27 _ _ ?_)))
   refine sx_retc ?_
   refine q_br (q_r (q_r (q_br (q_r (sx_ret1 Tryd.results45 rfl ?_)))))
   exact ⟨bFalse (fun h => by have h1 := h.1.getD k; omega), cwl20⟩
  refine sx_guardT rfl rfl rfl ?_
  refine mv rfl rfl ?_
  refine sx_guardT rfl rfl rfl ?_
  refine sp rfl (px_ge rfl rfl) ?_
  refine sp rfl (px_pick rfl rfl) ?_
  refine wl_nil (q_n (k26 _ _ ?_))
  refine sx_condP rfl (fun h17x1 => ?_) (fun h17x1 => ?_)
  ·
   refine sx_seq fun K28 k28 => sx_region ?_
   refine av rfl rfl (wl_nil (q_n (k28 _ _ ?_)))
   refine sx_retc ?_
   refine q_br (q_r (q_r (q_br (q_r (sx_ret1 Tryd.results45 rfl ?_)))))
   exact ⟨bFalse (fun h => by have h1 := h.1.getD k; omega), cwl20⟩
  refine sx_skip ?_
  refine q_bn (q_n (k23 _ _ ?_))
  refine sx_region ?_
  refine sp rfl (px_add rfl rfl (by omega)) ?_
  refine mv rfl rfl (wl_nil ?_)
  exact fun a ha => ⟨_, by omega, (k + 1), ha.sub (Sub.c 22 rfl (.c 23 rfl (.c 24 (look_int (t := 24) rfl (by first | omega | simp)) .nil))), cwl20, rfl, by omega, lm_succ hall (by omega)⟩
 refine sx_exit ?_
 refine q_e (q_e (q_bx (q_n (k18 _ _ ?_))))
 refine sx_seq fun K29 k29 => sx_region ?_
 refine av rfl rfl (wl_nil (q_n (k29 _ _ ?_)))
 refine sx_retc ?_
 refine sx_ret1 Tryd.results45 rfl ?_
 have ek : k = zs.length := by omega
 have hz : Lm zs := lm_mem (by rw [← ek]; exact hall)
 exact ⟨bTrue (NOk_mk hz (by omega) (by first | exact .inl (by omega) | exact .inr (by assumption))), cwl20⟩

theorem c_iIntOk {w : World} {n1 : Bool} {v1 : Value} {lv1 uv1 : Nat} {z1 : List Int} (hv1 : Sl w lv1 uv1 v1 (z1)) (h63 : z1.length ≤ 4611686018427387904) :
  Ret Tryd.prog 38 [.agg #[.bool n1, v1]] w fun v w' => v = .bool (decide (IOk n1 z1)) ∧ Chg 0 0 w w' := by
 have hv10 := hv1.fit
 refine sx_enter Tryd.func38 rfl Tryd.ntmps38 (nbl rfl) ?_
 refine sx_seq fun K1 k1 => sx_region ?_
 refine sx_box [.bool n1, v1] rfl rfl rfl (fun b2 w3 eb2 sb2 fb2 cb2 => ?_)
 have zw3 := cb2.size
 refine av rfl rfl (wl_nil (q_n (k1 _ _ ?_)))
 refine sx_seq fun K4 k4 => sx_region ?_
 refine sp rfl (px_field rfl xfld31x1) ?_
 refine sp rfl (px_load rfl (fb2.load1 rfl Tryd.isAgg22)) ?_
 have f5 := hv10.ext cb2
 refine sx_call rfl rfl Tryd.call45 (c_iNatOk f5 (by omega)) (fun v6 w6 p6 => ?_)
 obtain ⟨rfl, c6⟩ := p6
 have zw6 := c6.size
 refine mv rfl rfl ?_
 refine sx_tmpP (t := 6) rfl (fun h10 => ?_) (fun h10 => ?_)
 ·
  refine sx_guardT rfl rfl rfl ?_
  refine sp rfl (px_field rfl xfld31x0) ?_
  refine sx_guardT rfl rfl rfl ?_
  have f7 := fb2.ext c6
  refine sp rfl (px_load rfl (f7.load1 rfl Tryd.isAgg4)) ?_
  refine sx_guardT rfl rfl rfl ?_
  refine sp rfl (px_not rfl) ?_
  refine sx_guardT rfl rfl rfl ?_
  refine mv rfl rfl ?_
  refine sx_tmpB (t := 10) rfl (fun h10x1 => ?_) (fun h10x1 => ?_)
  ·
   refine sx_guardF rfl rfl rfl rfl rfl rfl ?_
   refine sx_guardF rfl rfl rfl rfl rfl rfl ?_
   refine sx_guardF rfl rfl rfl rfl rfl rfl ?_
   refine sx_guardF rfl rfl rfl rfl rfl rfl ?_
   refine sx_guardT rfl rfl rfl ?_
   refine sp rfl (px_pick rfl rfl) ?_
   refine sp rfl (px_pick rfl rfl) ?_
   refine av rfl rfl (wl_nil (q_n (k4 _ _ ?_)))
   refine sx_sub (Sub.c 2 rfl .nil) ?_
   refine sx_retc ?_
   refine sx_ret1 Tryd.results38 rfl ?_
   exact ⟨(by first | exact bTrue (by grind [IOk]) | exact bFalse (by grind [IOk]) | exact bIff (by grind [IOk])), (cb2.t c6)⟩
  refine sx_guardT rfl rfl rfl ?_
  refine sp rfl (px_field rfl xfld31x1) ?_
  refine sx_guardT rfl rfl rfl ?_
  refine sp rfl (px_load rfl (f7.load1 rfl Tryd.isAgg22)) ?_
  refine sx_guardT rfl rfl rfl ?_
  have f8 := f5.ext c6
  refine sp rfl (px_len rfl Tryd.underlying22 f8) ?_
  refine sx_guardT rfl rfl rfl ?_
  refine sp rfl (px_gt rfl rfl) ?_
  refine sx_guardT rfl rfl rfl ?_
  refine sp rfl (px_pick rfl rfl) ?_
  refine sp rfl (px_pick rfl rfl) ?_
  refine av rfl rfl (wl_nil (q_n (k4 _ _ ?_)))
  refine sx_sub (Sub.c 2 rfl .nil) ?_
  refine sx_retc ?_
  refine sx_ret1 Tryd.results38 rfl ?_
  exact ⟨(by first | exact bTrue (by grind [IOk]) | exact bFalse (by grind [IOk]) | exact bIff (by grind [IOk])), (cb2.t c6)⟩
 refine sx_guardF rfl rfl rfl rfl rfl rfl ?_
 refine sx_guardF rfl rfl rfl rfl rfl rfl ?_
 refine sx_guardF rfl rfl rfl rfl rfl rfl ?_
 refine sx_guardF rfl rfl rfl rfl rfl rfl ?_
 refine sx_guardFU rfl rfl rfl rfl rfl ?_
 refine sx_guardFU rfl rfl rfl rfl rfl ?_
 refine sx_guardFU rfl rfl rfl rfl rfl ?_
 refine sx_guardFU rfl rfl rfl rfl rfl ?_
 refine sx_guardF rfl rfl rfl rfl rfl rfl ?_
 refine sp rfl (px_pick rfl rfl) ?_
 refine av rfl rfl (wl_nil (q_n (k4 _ _ ?_)))
 refine sx_sub (Sub.c 2 rfl .nil) ?_
 refine sx_retc ?_
 refine sx_ret1 Tryd.results38 rfl ?_
 exact ⟨(by first | exact bTrue (by grind [IOk]) | exact bFalse (by grind [IOk]) | exact bIff (by grind [IOk])), (cb2.t c6)⟩

theorem c_isScale {w : World} {p : Int} :
  Ret Tryd.prog 39 [.int .i64 p] w fun v w' => v = .bool (decide (0 ≤ p ∧ p ≤ 30)) ∧ Chg 0 0 w w' := by
 refine sx_enter Tryd.func39 rfl Tryd.ntmps39 (nbl rfl) ?_
 refine sx_seq fun K1 k1 => sx_region ?_
 refine av rfl rfl (wl_nil (q_n (k1 _ _ ?_)))
 refine sx_seq fun K2 k2 => sx_region ?_
 refine mv rfl rfl (sp rfl (px_ge rfl rfl) ?_)
 refine mv rfl rfl ?_
 refine sx_tmpP (t := 5) rfl (fun h15 => ?_) (fun h15 => ?_)
 ·
  refine sx_guardT rfl rfl rfl ?_
  refine mv rfl rfl ?_
  refine sx_guardT rfl rfl rfl ?_
  refine sp rfl (px_le rfl rfl) ?_
  refine sp rfl (px_pick rfl rfl) ?_
  refine av rfl rfl (wl_nil (q_n (k2 _ _ ?_)))
  refine sx_retc ?_
  refine sx_ret1 Tryd.results39 rfl ?_
  exact ⟨(by first | exact bTrue (by grind) | exact bFalse (by grind) | exact bIff (by grind)), (Chg.refl 0 0 _)⟩
 refine sx_guardF rfl rfl rfl rfl rfl rfl ?_
 refine sx_guardF rfl rfl rfl rfl rfl rfl ?_
 refine sp rfl (px_pick rfl rfl) ?_
 refine av rfl rfl (wl_nil (q_n (k2 _ _ ?_)))
 refine sx_retc ?_
 refine sx_ret1 Tryd.results39 rfl ?_
 exact ⟨(by first | exact bTrue (by grind) | exact bFalse (by grind) | exact bIff (by grind)), (Chg.refl 0 0 _)⟩

theorem c_iDecOk {w : World} {n1 : Bool} {v1 : Value} {lv1 uv1 : Nat} {z1 : List Int} {p1 : Int} (hv1 : Sl w lv1 uv1 v1 (z1)) (h63 : z1.length ≤ 4611686018427387904) :
  Ret Tryd.prog 24 [.agg #[.bool n1, v1, .int .i64 p1]] w fun v w' => v = .bool (decide (DOk n1 z1 p1)) ∧ Chg 0 0 w w' := by
 have hv10 := hv1.fit
 refine sx_enter Tryd.func24 rfl Tryd.ntmps24 (nbl rfl) ?_
 refine sx_seq fun K1 k1 => sx_region ?_
 refine sx_box [.bool n1, v1, .int .i64 p1] rfl rfl rfl (fun b2 w3 eb2 sb2 fb2 cb2 => ?_)
 have zw3 := cb2.size
 refine av rfl rfl (wl_nil (q_n (k1 _ _ ?_)))
 refine sx_seq fun K4 k4 => sx_region ?_
 refine sp rfl (px_field rfl xfld33x0) ?_
 refine sp rfl (px_load rfl (fb2.loadA (vs := [.bool n1, v1]) (look_lit rfl) Tryd.isAgg31 Tryd.sizeOf31)) ?_
 have f5 := hv10.ext cb2
 refine sx_call rfl rfl Tryd.call38 (c_iIntOk f5 (by omega)) (fun v6 w6 p6 => ?_)
 obtain ⟨rfl, c6⟩ := p6
 have zw6 := c6.size
 refine mv rfl rfl ?_
 refine sx_tmpP (t := 6) rfl (fun h18 => ?_) (fun h18 => ?_)
 ·
  refine sx_guardT rfl rfl rfl ?_
  refine sp rfl (px_field rfl xfld33x0) ?_
  refine sx_guardT rfl rfl rfl ?_
  refine sp rfl (px_field rfl xfld31x1) ?_
  refine sx_guardT rfl rfl rfl ?_
  have f7 := fb2.ext c6
  refine sp rfl (px_load rfl (f7.load1 rfl Tryd.isAgg22)) ?_
  refine sx_guardT rfl rfl rfl ?_
  have f8 := f5.ext c6
  refine sp rfl (px_len rfl Tryd.underlying22 f8) ?_
  refine sx_guardT rfl rfl rfl ?_
  refine sp rfl (px_le rfl rfl) ?_
  refine sp rfl (px_pick rfl rfl) ?_
  refine mv rfl rfl ?_
  refine sx_tmpP (t := 13) rfl (fun h18x1 => ?_) (fun h18x1 => ?_)
  ·
   refine sx_guardT rfl rfl rfl ?_
   refine sp rfl (px_field rfl xfld33x1) ?_
   refine sx_guardT rfl rfl rfl ?_
   refine sp rfl (px_load rfl (f7.load1 rfl Tryd.isAgg3)) ?_
   refine sx_guardT rfl rfl rfl ?_
   refine sx_call rfl rfl Tryd.call39 (c_isScale) (fun v9 w9 p9 => ?_)
   obtain ⟨rfl, c9⟩ := p9
   have zw9 := c9.size
   refine sp rfl (px_pick rfl rfl) ?_
   refine av rfl rfl (wl_nil (q_n (k4 _ _ ?_)))
   refine sx_sub (Sub.c 2 rfl .nil) ?_
   refine sx_retc ?_
   refine sx_ret1 Tryd.results24 rfl ?_
   exact ⟨(by first | exact bTrue (by grind [DOk]) | exact bFalse (by grind [DOk]) | exact bIff (by grind [DOk])), ((cb2.t c6).t c9)⟩
  refine sx_guardF rfl rfl rfl rfl rfl rfl ?_
  refine sx_guardF rfl rfl rfl rfl rfl rfl ?_
  refine sx_guardF rfl rfl rfl rfl rfl rfl ?_
  refine sp rfl (px_pick rfl rfl) ?_
  refine av rfl rfl (wl_nil (q_n (k4 _ _ ?_)))
  refine sx_sub (Sub.c 2 rfl .nil) ?_
  refine sx_retc ?_
  refine sx_ret1 Tryd.results24 rfl ?_
  exact ⟨(by first | exact bTrue (by grind [DOk]) | exact bFalse (by grind [DOk]) | exact bIff (by grind [DOk])), (cb2.t c6)⟩
 refine sx_guardF rfl rfl rfl rfl rfl rfl ?_
 refine sx_guardF rfl rfl rfl rfl rfl rfl ?_
 refine sx_guardF rfl rfl rfl rfl rfl rfl ?_
 refine sx_guardF rfl rfl rfl rfl rfl rfl ?_
 refine sx_guardF rfl rfl rfl rfl rfl rfl ?_
 refine sp rfl (px_pick rfl rfl) ?_
 refine mv rfl rfl ?_
 refine sx_guardF rfl rfl rfl rfl rfl rfl ?_
 refine sx_guardF rfl rfl rfl rfl rfl rfl ?_
 refine sx_guardF rfl rfl rfl rfl rfl rfl ?_
 refine sp rfl (px_pick rfl rfl) ?_
 refine av rfl rfl (wl_nil (q_n (k4 _ _ ?_)))
 refine sx_sub (Sub.c 2 rfl .nil) ?_
 refine sx_retc ?_
 refine sx_ret1 Tryd.results24 rfl ?_
 exact ⟨(by first | exact bTrue (by grind [DOk]) | exact bFalse (by grind [DOk]) | exact bIff (by grind [DOk])), (cb2.t c6)⟩

theorem c_intSign {w : World} {va : Value} {lva uva : Nat} {x : Int} (hva : Sl w lva uva va (dg x.natAbs)) (hbx : (dg x.natAbs).length ≤ 1000) :
  Ret Tryd.prog 25 [.agg #[.bool (ng x), va]] w fun v w' => v = .int .i64 ((x).sign) ∧ Chg 0 0 w w' := by
 have hva0 := hva.fit
 refine sx_enter Tryd.func25 rfl Tryd.ntmps25 (nbl rfl) ?_
 refine sx_seq fun K1 k1 => sx_region ?_
 refine sx_box [.bool (ng x), va] rfl rfl rfl (fun b2 w3 eb2 sb2 fb2 cb2 => ?_)
 have zw3 := cb2.size
 refine av rfl rfl (wl_nil (q_n (k1 _ _ ?_)))
 refine sx_seq fun K4 k4 => ?_
 refine sx_block ?_
 refine sx_seq fun K5 k5 => sx_region ?_
 refine sp rfl (px_field rfl xfld31x1) ?_
 refine sp rfl (px_load rfl (fb2.load1 rfl Tryd.isAgg22)) ?_
 have f6 := hva0.ext cb2
 refine sp rfl (px_len rfl Tryd.underlying22 f6) ?_
 refine sp rfl (px_eq rfl rfl) ?_
 refine av rfl rfl (wl_nil (q_n (k5 _ _ ?_)))
 refine sx_condP rfl (fun h101 => ?_) (fun h101 => ?_)
 ·
  refine sx_seq fun K7 k7 => sx_region ?_
  refine av rfl rfl (wl_nil (q_n (k7 _ _ ?_)))
  refine sx_retc ?_
  refine q_br (q_r (sx_ret1 Tryd.results25 rfl ?_))
  exact ⟨(by rw [sign_z (by omega)]), cb2⟩
 refine sx_seq fun K8 k8 => sx_region ?_
 refine sp rfl (px_field rfl xfld31x0) ?_
 refine sp rfl (px_load rfl (fb2.load1 rfl Tryd.isAgg4)) ?_
 refine av rfl rfl (wl_nil (q_n (k8 _ _ ?_)))
 refine sx_condB rfl (fun h103 => ?_) (fun h103 => ?_)
 ·
  refine sx_seq fun K9 k9 => sx_region ?_
  refine av rfl rfl (wl_nil (q_n (k9 _ _ ?_)))
  refine sx_retc ?_
  refine q_br (q_r (sx_ret1 Tryd.results25 rfl ?_))
  exact ⟨(by rw [sign_n h103]), cb2⟩
 refine sx_skip ?_
 refine q_bn (q_n (k4 _ _ ?_))
 refine sx_seq fun K10 k10 => sx_region ?_
 refine av rfl rfl (wl_nil (q_n (k10 _ _ ?_)))
 refine sx_retc ?_
 refine sx_ret1 Tryd.results25 rfl ?_
 exact ⟨(by rw [sign_p (by omega) h103]), cb2⟩

theorem c_iRateOk {w : World} {f1 : ByteArray} {t1 : ByteArray} {n1 : Bool} {v1 : Value} {lv1 uv1 : Nat} {z1 : List Int} {p1 : Int} (hG0 : Glob w) (hv1 : Sl w lv1 uv1 v1 (z1)) (h63 : z1.length ≤ 4611686018427387904) :
  Ret Tryd.prog 13 [.agg #[.string f1, .string t1, .bool n1, v1, .int .i64 p1]] w fun v w' => v = .bool (decide (RateP f1 t1 n1 z1 p1)) ∧ Chg 0 0 w w' := by
 have hv10 := hv1.fit
 refine sx_enter Tryd.func13 rfl Tryd.ntmps13 (nbl rfl) ?_
 refine sx_seq fun K1 k1 => sx_region ?_
 refine sx_box [.string f1, .string t1, .bool n1, v1, .int .i64 p1] rfl rfl rfl (fun b2 w3 eb2 sb2 fb2 cb2 => ?_)
 have zw3 := cb2.size
 refine av rfl rfl (wl_nil (q_n (k1 _ _ ?_)))
 refine sx_seq fun K4 k4 => sx_region ?_
 refine sp rfl (px_field rfl xfld35x0) ?_
 refine sp rfl (px_load rfl (fb2.load1 rfl Tryd.isAgg9)) ?_
 have f5 := hG0.ext cb2
 refine sx_call rfl rfl Tryd.call23 (c_iCurKnown f5) (fun v6 w6 p6 => ?_)
 obtain ⟨rfl, c6⟩ := p6
 have zw6 := c6.size
 refine mv rfl rfl ?_
 refine sx_tmpP (t := 6) rfl (fun h36 => ?_) (fun h36 => ?_)
 ·
  refine sx_guardT rfl rfl rfl ?_
  refine sp rfl (px_field rfl xfld35x1) ?_
  refine sx_guardT rfl rfl rfl ?_
  have f7 := fb2.ext c6
  refine sp rfl (px_load rfl (f7.load1 rfl Tryd.isAgg9)) ?_
  refine sx_guardT rfl rfl rfl ?_
  have f8 := f5.ext c6
  refine sx_call rfl rfl Tryd.call23 (c_iCurKnown f8) (fun v9 w9 p9 => ?_)
  obtain ⟨rfl, c9⟩ := p9
  have zw9 := c9.size
  refine sp rfl (px_pick rfl rfl) ?_
  refine mv rfl rfl ?_
  refine sx_tmpP (t := 11) rfl (fun h36x1 => ?_) (fun h36x1 => ?_)
  ·
   refine sx_guardT rfl rfl rfl ?_
   refine sp rfl (px_field rfl xfld35x0) ?_
   refine sx_guardT rfl rfl rfl ?_
   have f10 := f7.ext c9
   refine sp rfl (px_load rfl (f10.load1 rfl Tryd.isAgg9)) ?_
   refine sx_guardT rfl rfl rfl ?_
   refine sp rfl (px_field rfl xfld35x1) ?_
   refine sx_guardT rfl rfl rfl ?_
   refine sp rfl (px_load rfl (f10.load1 rfl Tryd.isAgg9)) ?_
   refine sx_guardT rfl rfl rfl ?_
   refine sp rfl (px_neS rfl rfl) ?_
   refine sp rfl (px_pick rfl rfl) ?_
   refine mv rfl rfl ?_
   refine sx_tmpP (t := 18) rfl (fun h36x2 => ?_) (fun h36x2 => ?_)
   ·
    refine sx_guardT rfl rfl rfl ?_
    refine sp rfl (px_field rfl xfld35x2) ?_
    refine sx_guardT rfl rfl rfl ?_
    refine sp rfl (px_load rfl (f10.loadA (vs := [.bool n1, v1, .int .i64 p1]) (look_lit rfl) Tryd.isAgg33 Tryd.sizeOf33)) ?_
    refine sx_guardT rfl rfl rfl ?_
    have f11 := hv10.ext cb2
    have f13 := (f11.ext c6).ext c9
    refine sx_call rfl rfl Tryd.call24 (c_iDecOk f13 (by omega)) (fun v14 w14 p14 => ?_)
    obtain ⟨rfl, c14⟩ := p14
    have zw14 := c14.size
    refine sp rfl (px_pick rfl rfl) ?_
    refine mv rfl rfl ?_
    refine sx_tmpP (t := 23) rfl (fun h36x3 => ?_) (fun h36x3 => ?_)
    ·
     have hD := h36x3
     obtain ⟨x1, rfl, rfl, hx1⟩ := hD.int
     have hvx := vI_ng x1
     have hsx := sign_gt (x := x1)
     have hcx := cmpI_gt0 (x := x1)
     refine sx_guardT rfl rfl rfl ?_
     refine sp rfl (px_field rfl xfld35x2) ?_
     refine sx_guardT rfl rfl rfl ?_
     refine sp rfl (px_field rfl xfld33x0) ?_
     refine sx_guardT rfl rfl rfl ?_
     have f15 := f10.ext c14
     refine sp rfl (px_load rfl (f15.loadA (vs := [.bool (ng x1), v1]) (look_lit rfl) Tryd.isAgg31 Tryd.sizeOf31)) ?_
     refine sx_guardT rfl rfl rfl ?_
     have f16 := f13.ext c14
     refine sx_call rfl rfl Tryd.call25 (c_intSign f16 (by omega)) (fun v17 w17 p17 => ?_)
     obtain ⟨rfl, c17⟩ := p17
     have zw17 := c17.size
     refine sx_guardT rfl rfl rfl ?_
     refine sp rfl (px_gt rfl rfl) ?_
     refine sp rfl (px_pick rfl rfl) ?_
     refine mv rfl rfl ?_
     refine sx_tmpP (t := 30) rfl (fun h36x4 => ?_) (fun h36x4 => ?_)
     ·
      refine sx_guardT rfl rfl rfl ?_
      refine sp rfl (px_field rfl xfld35x2) ?_
      refine sx_guardT rfl rfl rfl ?_
      refine sp rfl (px_field rfl xfld33x0) ?_
      refine sx_guardT rfl rfl rfl ?_
      refine sp rfl (px_field rfl xfld31x1) ?_
      refine sx_guardT rfl rfl rfl ?_
      have f18 := f15.ext c17
      refine sp rfl (px_load rfl (f18.load1 rfl Tryd.isAgg22)) ?_
      refine sx_guardT rfl rfl rfl ?_
      have f19 := f16.ext c17
      refine sp rfl (px_len rfl Tryd.underlying22 f19) ?_
      refine sx_guardT rfl rfl rfl ?_
      refine sp rfl (px_le rfl rfl) ?_
      refine sp rfl (px_pick rfl rfl) ?_
      refine av rfl rfl (wl_nil (q_n (k4 _ _ ?_)))
      refine sx_sub (Sub.c 2 rfl .nil) ?_
      refine sx_retc ?_
      refine sx_ret1 Tryd.results13 rfl ?_
      exact ⟨(by first | exact bTrue (by grind [RateP]) | exact bFalse (by grind [RateP]) | exact bIff (by grind [RateP])), ((((cb2.t c6).t c9).t c14).t c17)⟩
     refine sx_guardF rfl rfl rfl rfl rfl rfl ?_
     refine sx_guardF rfl rfl rfl rfl rfl rfl ?_
     refine sx_guardF rfl rfl rfl rfl rfl rfl ?_
     refine sx_guardF rfl rfl rfl rfl rfl rfl ?_
     refine sx_guardF rfl rfl rfl rfl rfl rfl ?_
     refine sx_guardF rfl rfl rfl rfl rfl rfl ?_
     refine sp rfl (px_pick rfl rfl) ?_
     refine av rfl rfl (wl_nil (q_n (k4 _ _ ?_)))
     refine sx_sub (Sub.c 2 rfl .nil) ?_
     refine sx_retc ?_
     refine sx_ret1 Tryd.results13 rfl ?_
     exact ⟨(by first | exact bTrue (by grind [RateP]) | exact bFalse (by grind [RateP]) | exact bIff (by grind [RateP])), ((((cb2.t c6).t c9).t c14).t c17)⟩
    refine sx_guardF rfl rfl rfl rfl rfl rfl ?_
    refine sx_guardF rfl rfl rfl rfl rfl rfl ?_
    refine sx_guardF rfl rfl rfl rfl rfl rfl ?_
    refine sx_guardF rfl rfl rfl rfl rfl rfl ?_
    refine sx_guardF rfl rfl rfl rfl rfl rfl ?_
    refine sp rfl (px_pick rfl rfl) ?_
    refine mv rfl rfl ?_
    refine sx_guardF rfl rfl rfl rfl rfl rfl ?_
    refine sx_guardF rfl rfl rfl rfl rfl rfl ?_
    refine sx_guardF rfl rfl rfl rfl rfl rfl ?_
    refine sx_guardF rfl rfl rfl rfl rfl rfl ?_
    refine sx_guardF rfl rfl rfl rfl rfl rfl ?_
    refine sx_guardF rfl rfl rfl rfl rfl rfl ?_
    refine sp rfl (px_pick rfl rfl) ?_
    refine av rfl rfl (wl_nil (q_n (k4 _ _ ?_)))
    refine sx_sub (Sub.c 2 rfl .nil) ?_
    refine sx_retc ?_
    refine sx_ret1 Tryd.results13 rfl ?_
    exact ⟨(by first | exact bTrue (by grind [RateP]) | exact bFalse (by grind [RateP]) | exact bIff (by grind [RateP])), (((cb2.t c6).t c9).t c14)⟩
   refine sx_guardF rfl rfl rfl rfl rfl rfl ?_
   refine sx_guardF rfl rfl rfl rfl rfl rfl ?_
   refine sx_guardF rfl rfl rfl rfl rfl rfl ?_
   refine sp rfl (px_pick rfl rfl) ?_
   refine mv rfl rfl ?_
   refine sx_guardF rfl rfl rfl rfl rfl rfl ?_
   refine sx_guardF rfl rfl rfl rfl rfl rfl ?_
   refine sx_guardF rfl rfl rfl rfl rfl rfl ?_
   refine sx_guardF rfl rfl rfl rfl rfl rfl ?_
   refine sx_guardF rfl rfl rfl rfl rfl rfl ?_
   refine sp rfl (px_pick rfl rfl) ?_
   refine mv rfl rfl ?_
   refine sx_guardF rfl rfl rfl rfl rfl rfl ?_
   refine sx_guardF rfl rfl rfl rfl rfl rfl ?_
   refine sx_guardF rfl rfl rfl rfl rfl rfl ?_
   refine sx_guardF rfl rfl rfl rfl rfl rfl ?_
   refine sx_guardF rfl rfl rfl rfl rfl rfl ?_
   refine sx_guardF rfl rfl rfl rfl rfl rfl ?_
   refine sp rfl (px_pick rfl rfl) ?_
   refine av rfl rfl (wl_nil (q_n (k4 _ _ ?_)))
   refine sx_sub (Sub.c 2 rfl .nil) ?_
   refine sx_retc ?_
   refine sx_ret1 Tryd.results13 rfl ?_
   exact ⟨(by first | exact bTrue (by grind [RateP]) | exact bFalse (by grind [RateP]) | exact bIff (by grind [RateP])), ((cb2.t c6).t c9)⟩
  refine sx_guardF rfl rfl rfl rfl rfl rfl ?_
  refine sx_guardF rfl rfl rfl rfl rfl rfl ?_
  refine sx_guardF rfl rfl rfl rfl rfl rfl ?_
  refine sx_guardF rfl rfl rfl rfl rfl rfl ?_
  refine sx_guardF rfl rfl rfl rfl rfl rfl ?_
  refine sp rfl (px_pick rfl rfl) ?_
  refine mv rfl rfl ?_
  refine sx_guardF rfl rfl rfl rfl rfl rfl ?_
  refine sx_guardF rfl rfl rfl rfl rfl rfl ?_
  refine sx_guardF rfl rfl rfl rfl rfl rfl ?_
  refine sp rfl (px_pick rfl rfl) ?_
  refine mv rfl rfl ?_
  refine sx_guardF rfl rfl rfl rfl rfl rfl ?_
  refine sx_guardF rfl rfl rfl rfl rfl rfl ?_
  refine sx_guardF rfl rfl rfl rfl rfl rfl ?_
  refine sx_guardF rfl rfl rfl rfl rfl rfl ?_
  refine sx_guardF rfl rfl rfl rfl rfl rfl ?_
  refine sp rfl (px_pick rfl rfl) ?_
  refine mv rfl rfl ?_
  refine sx_guardF rfl rfl rfl rfl rfl rfl ?_
  refine sx_guardF rfl rfl rfl rfl rfl rfl ?_
  refine sx_guardF rfl rfl rfl rfl rfl rfl ?_
  refine sx_guardF rfl rfl rfl rfl rfl rfl ?_
  refine sx_guardF rfl rfl rfl rfl rfl rfl ?_
  refine sx_guardF rfl rfl rfl rfl rfl rfl ?_
  refine sp rfl (px_pick rfl rfl) ?_
  refine av rfl rfl (wl_nil (q_n (k4 _ _ ?_)))
  refine sx_sub (Sub.c 2 rfl .nil) ?_
  refine sx_retc ?_
  refine sx_ret1 Tryd.results13 rfl ?_
  exact ⟨(by first | exact bTrue (by grind [RateP]) | exact bFalse (by grind [RateP]) | exact bIff (by grind [RateP])), ((cb2.t c6).t c9)⟩
 refine sx_guardF rfl rfl rfl rfl rfl rfl ?_
 refine sx_guardF rfl rfl rfl rfl rfl rfl ?_
 refine sx_guardF rfl rfl rfl rfl rfl rfl ?_
 refine sp rfl (px_pick rfl rfl) ?_
 refine mv rfl rfl ?_
 refine sx_guardF rfl rfl rfl rfl rfl rfl ?_
 refine sx_guardF rfl rfl rfl rfl rfl rfl ?_
 refine sx_guardF rfl rfl rfl rfl rfl rfl ?_
 refine sx_guardF rfl rfl rfl rfl rfl rfl ?_
 refine sx_guardF rfl rfl rfl rfl rfl rfl ?_
 refine sp rfl (px_pick rfl rfl) ?_
 refine mv rfl rfl ?_
 refine sx_guardF rfl rfl rfl rfl rfl rfl ?_
 refine sx_guardF rfl rfl rfl rfl rfl rfl ?_
 refine sx_guardF rfl rfl rfl rfl rfl rfl ?_
 refine sp rfl (px_pick rfl rfl) ?_
 refine mv rfl rfl ?_
 refine sx_guardF rfl rfl rfl rfl rfl rfl ?_
 refine sx_guardF rfl rfl rfl rfl rfl rfl ?_
 refine sx_guardF rfl rfl rfl rfl rfl rfl ?_
 refine sx_guardF rfl rfl rfl rfl rfl rfl ?_
 refine sx_guardF rfl rfl rfl rfl rfl rfl ?_
 refine sp rfl (px_pick rfl rfl) ?_
 refine mv rfl rfl ?_
 refine sx_guardF rfl rfl rfl rfl rfl rfl ?_
 refine sx_guardF rfl rfl rfl rfl rfl rfl ?_
 refine sx_guardF rfl rfl rfl rfl rfl rfl ?_
 refine sx_guardF rfl rfl rfl rfl rfl rfl ?_
 refine sx_guardF rfl rfl rfl rfl rfl rfl ?_
 refine sx_guardF rfl rfl rfl rfl rfl rfl ?_
 refine sp rfl (px_pick rfl rfl) ?_
 refine av rfl rfl (wl_nil (q_n (k4 _ _ ?_)))
 refine sx_sub (Sub.c 2 rfl .nil) ?_
 refine sx_retc ?_
 refine sx_ret1 Tryd.results13 rfl ?_
 exact ⟨(by first | exact bTrue (by grind [RateP]) | exact bFalse (by grind [RateP]) | exact bIff (by grind [RateP])), (cb2.t c6)⟩

theorem c_Itoa {w : World} {n : Int} (hGT : GlobP w) (hn : 0 ≤ n ∧ n < 1000000000) :
  Ret Tryd.prog 52 [.int .i64 n] w fun v w' => v = .string (itx n) ∧ Chg 0 0 w w' := by
 have h := Any.strconv_Itoa lays171 n (by omega) (by omega) w hGT.tab
 exact Calls.mono h fun e w' ⟨he, k, os, hw⟩ => ⟨_, he, rfl, hw ▸ ⟨rfl, rfl, rfl, by simp [Go.Sort.grow, World.drewN], fun i hi _ => Go.Sort.heap_grow_old _ _ (by simpa [World.drewN] using hi)⟩⟩

theorem c_iIntText {w : World} {n : Int} (hGT : GlobP w) (hn : 0 ≤ n ∧ n < 1000000000) :
  Ret Tryd.prog 41 [.int .i64 n] w fun v w' => v = .string (itx n) ∧ Chg 0 0 w w' := by
 have hGTl := hGT.lt
 refine sx_enter Tryd.func41 rfl Tryd.ntmps41 (nbl rfl) ?_
 refine sx_seq fun K1 k1 => sx_region ?_
 refine av rfl rfl (wl_nil (q_n (k1 _ _ ?_)))
 refine sx_seq fun K2 k2 => sx_region ?_
 refine mv rfl rfl (sx_call rfl rfl Tryd.call52 (c_Itoa hGT (by omega)) (fun v3 w3 p3 => ?_))
 obtain ⟨rfl, c3⟩ := p3
 have zw3 := c3.size
 refine av rfl rfl (wl_nil (q_n (k2 _ _ ?_)))
 refine sx_retc ?_
 refine sx_ret1 Tryd.results41 rfl ?_
 exact ⟨rfl, c3⟩

theorem c_Repeat {w : World} {s : ByteArray} {k : Int} (hs : s = ⟨#[48]⟩) (hk : 0 ≤ k ∧ k ≤ 100000) :
  Ret Tryd.prog 40 [.string s, .int .i64 k] w fun v w' => v = .string (zer (k).toNat) ∧ Chg 0 0 w w' := by
 subst hs; have e0 : ((k.toNat : Nat) : Int) = k := by omega
 have h := Any.strings_Repeat lays105 extraB ⟨#[48]⟩ k.toNat w (by omega) (by show 1 * k.toNat ≤ _; omega); rw [e0] at h
 exact Calls.mono h fun e w' ⟨he, hb⟩ => ⟨_, he, rfl, hb.os, hb.tape, hb.output, hb.size, fun i hi _ => hb.block i hi⟩

theorem c_iPad {w : World} {s : ByteArray} {n : Int} (hs : s.size ≤ 100000) (hn : 0 ≤ n ∧ n ≤ 100000) :
  Ret Tryd.prog 26 [.string s, .int .i64 n] w fun v w' => v = .string (padT s n) ∧ Chg 0 0 w w' := by
 refine sx_enter Tryd.func26 rfl Tryd.ntmps26 (nbl rfl) ?_
 refine sx_seq fun K1 k1 => sx_region ?_
 refine av rfl rfl (wl_nil (q_n (k1 _ _ ?_)))
 refine sx_seq fun K2 k2 => ?_
 refine sx_seq fun K3 k3 => sx_region ?_
 refine mv rfl rfl (sp rfl (px_lenS rfl Tryd.underlying9) ?_)
 refine mv rfl rfl (sp rfl (px_ge rfl rfl) ?_)
 refine mv rfl rfl ?_
 refine sx_tmpP (t := 9) rfl (fun h95 => ?_) (fun h95 => ?_)
 ·
  refine sx_guardF rfl rfl rfl rfl rfl rfl ?_
  refine sx_guardF rfl rfl rfl rfl rfl rfl ?_
  refine sp rfl (px_pick rfl rfl) ?_
  refine wl_nil (q_n (k3 _ _ ?_))
  refine sx_condT rfl ?_
  refine sx_seq fun K4 k4 => sx_region ?_
  refine mv rfl rfl (av rfl rfl (wl_nil (q_n (k4 _ _ ?_))))
  refine sx_retc ?_
  refine q_r (sx_ret1 Tryd.results26 rfl ?_)
  rw [padT_no (by omega)]
  exact ⟨rfl, (Chg.refl 0 0 _)⟩
 refine sx_guardT rfl rfl rfl ?_
 refine mv rfl rfl ?_
 refine sx_guardT rfl rfl rfl ?_
 refine sp rfl (px_gt rfl rfl) ?_
 refine sp rfl (px_pick rfl rfl) ?_
 refine wl_nil (q_n (k3 _ _ ?_))
 refine sx_condP rfl (fun h95x1 => ?_) (fun h95x1 => ?_)
 ·
  refine sx_seq fun K5 k5 => sx_region ?_
  refine mv rfl rfl (av rfl rfl (wl_nil (q_n (k5 _ _ ?_))))
  refine sx_retc ?_
  refine q_r (sx_ret1 Tryd.results26 rfl ?_)
  rw [padT_no (by omega)]
  exact ⟨rfl, (Chg.refl 0 0 _)⟩
 refine sx_skip ?_
 refine q_n (k2 _ _ ?_)
 refine sx_seq fun K6 k6 => sx_region ?_
 refine mv rfl rfl (mv rfl rfl (sp rfl (px_lenS rfl Tryd.underlying9) ?_))
 refine sp rfl (px_sub rfl rfl (by omega)) ?_
 refine sx_call rfl rfl Tryd.call40 (c_Repeat (rfl) (by omega)) (fun v7 w7 p7 => ?_)
 obtain ⟨rfl, c7⟩ := p7
 have zw7 := c7.size
 refine mv rfl rfl (sp rfl (px_cat rfl rfl (by rw [zer_size]; omega)) ?_)
 refine av rfl rfl (wl_nil (q_n (k6 _ _ ?_)))
 refine sx_sub (Sub.c 4 rfl .nil) ?_
 refine sx_retc ?_
 refine sx_ret1 Tryd.results26 rfl ?_
 rw [padT_yes (by omega)]
 exact ⟨rfl, c7⟩

theorem c_natText {w : World} {va : Value} {lva uva : Nat} {zs : List Int} (hGT : GlobP w) (hva : Sl w lva uva va (zs)) (hz : Lm zs) (hl : zs.length ≤ 60) :
  Ret Tryd.prog 27 [va] w fun v w' => v = .string (natT zs) ∧ Chg 0 0 w w' := by
 have hGTl := hGT.lt
 have hva0 := hva.fit
 refine sx_enter Tryd.func27 rfl Tryd.ntmps27 (nbl rfl) ?_
 refine sx_seq fun K1 k1 => sx_region ?_
 refine av rfl rfl (wl_nil (q_n (k1 _ _ ?_)))
 refine sx_seq fun K2 k2 => ?_
 refine sx_seq fun K3 k3 => sx_region ?_
 refine mv rfl rfl (sp rfl (px_len rfl Tryd.underlying22 hva0) ?_)
 refine sp rfl (px_eq rfl rfl) ?_
 refine wl_nil (q_n (k3 _ _ ?_))
 refine sx_condP rfl (fun h182 => ?_) (fun h182 => ?_)
 ·
  refine sx_seq fun K4 k4 => sx_region ?_
  refine av rfl rfl (wl_nil (q_n (k4 _ _ ?_)))
  refine sx_retc ?_
  refine q_r (sx_ret1 Tryd.results27 rfl ?_)
  have e : natT zs = ⟨#[48]⟩ := by unfold natT; rw [if_pos (by omega)]
  exact ⟨congrArg Value.string e.symm, (Chg.refl 0 0 _)⟩
 refine sx_skip ?_
 refine q_n (k2 _ _ ?_)
 refine sx_seq fun K5 k5 => sx_region ?_
 refine mv rfl rfl (mv rfl rfl (sp rfl (px_len rfl Tryd.underlying22 hva0) ?_))
 refine sp rfl (px_sub rfl rfl (by omega)) ?_
 refine sp rfl (px_index1 (j := (zs.length - 1)) rfl rfl (by omega) Tryd.underlying22 Tryd.sizeOf3 hva0 (by omega)) ?_
 refine sp rfl (px_load rfl (hva0.load1 (at_int (by omega)) Tryd.isAgg3)) ?_
 refine sx_call rfl rfl Tryd.call41 (c_iIntText hGT (by have hb := hz.getD (zs.length - 1); omega)) (fun v6 w6 p6 => ?_)
 obtain ⟨rfl, c6⟩ := p6
 have zw6 := c6.size
 refine av rfl rfl (wl_nil (q_n (k5 _ _ ?_)))
 refine sx_seq fun K7 k7 => ?_
 refine sx_seq fun K8 k8 => sx_region ?_
 refine mv rfl rfl ?_
 have f9 := hva0.ext c6
 refine sp rfl (px_len rfl Tryd.underlying22 f9) ?_
 refine sp rfl (px_sub rfl rfl (by omega)) ?_
 refine av rfl rfl (wl_nil (q_n (k8 _ _ ?_)))
 refine sx_sub (Sub.c 0 rfl (.c 2 rfl (.c 3 rfl (.c 4 rfl .nil)))) ?_
 refine sx_block ?_
 refine sx_loop (fun mm aa w' => ∃ (k : Nat) (t : ByteArray), Agr 31 [(0, va), (3, .string t), (4, .int .i64 (↑k - 1))] aa ∧ Chg 0 0 w6 w' ∧ (mm = k) ∧ (k < zs.length) ∧ (natGo zs k t = natT zs) ∧ (t.size + 9 * k ≤ 1000)) (_) (fun a ha => ⟨(zs.length - 1), (itx ((zs).getD (zs.length - 1) 0)), ha.sub (Sub.c 0 rfl (.c 3 rfl (.c 4 (look_int (t := 4) rfl (by first | omega | simp)) .nil))), Chg.refl _ _ _, rfl, by omega, by unfold natT; rw [if_neg (by omega)], by have hb := hz.getD (zs.length - 1); have h1 := itx_size hb.1 hb.2; omega⟩) ?_
 rintro mm aa wl10 ⟨k, t, hAwl10, cwl10, hm, hk, ht, hts⟩
 refine (show cw Tryd.prog 31 _ _ _ wl10 from ?_) aa hAwl10
 clear hAwl10
 have zwl10 := cwl10.size
 have hb := hz.getD (k - 1)
 have h1 := itx_size hb.1 hb.2
 have h2 := padT_size (s := itx (zs.getD (k - 1) 0)) (n := 9) (by decide)
 refine sx_seq fun K11 k11 => ?_
 refine sx_seq fun K12 k12 => sx_region ?_
 refine mv rfl rfl (sp rfl (px_ge rfl rfl) ?_)
 refine wl_nil (q_n (k12 _ _ ?_))
 refine sx_condP rfl (fun h186 => ?_) (fun h186 => ?_)
 ·
  refine sx_skip ?_
  refine q_n (k11 _ _ ?_)
  refine sx_seq fun K13 k13 => ?_
  refine sx_block ?_
  refine sx_region ?_
  refine mv rfl rfl (mv rfl rfl (mv rfl rfl ?_))
  have f14 := f9.ext cwl10
  refine sp rfl (px_index1 (j := (k - 1)) rfl rfl (by omega) Tryd.underlying22 Tryd.sizeOf3 f14 (by omega)) ?_
  refine sp rfl (px_load rfl (f14.load1 (at_int (by omega)) Tryd.isAgg3)) ?_
  have f16 := (hGT.ext c6).ext cwl10
  refine sx_call rfl rfl Tryd.call41 (c_iIntText f16 (by omega)) (fun v17 w17 p17 => ?_)
  obtain ⟨rfl, c17⟩ := p17
  have zw17 := c17.size
  refine sx_call rfl rfl Tryd.call26 (c_iPad (by omega) (by omega)) (fun v18 w18 p18 => ?_)
  obtain ⟨rfl, c18⟩ := p18
  have zw18 := c18.size
  refine sp rfl (px_cat rfl rfl (by omega)) ?_
  refine av rfl rfl (wl_nil ?_)
  refine q_bn (q_n (k13 _ _ ?_))
  refine sx_region ?_
  refine mv rfl rfl (sp rfl (px_sub rfl rfl (by omega)) ?_)
  refine av rfl rfl (wl_nil ?_)
  exact fun a ha => ⟨_, by omega, (k - 1), (t ++ (padT (itx ((zs).getD (k - 1) 0)) (9 : Int))), ha.sub (Sub.c 0 rfl (.c 3 rfl (.c 4 (look_int (t := 4) rfl (by first | omega | simp)) .nil))), ((cwl10.t c17).t c18), rfl, by omega, (natGo_step (by omega)).symm.trans ht, by rw [ByteArray.size_append]; omega⟩
 refine sx_exit ?_
 refine q_e (q_e (q_bx (q_n (k7 _ _ ?_))))
 refine sx_seq fun K19 k19 => sx_region ?_
 refine mv rfl rfl (av rfl rfl (wl_nil (q_n (k19 _ _ ?_))))
 refine sx_retc ?_
 refine sx_ret1 Tryd.results27 rfl ?_
 have ek : k = 0 := by omega
 subst ek
 exact ⟨congrArg Value.string (show t = natT zs from ht), (c6.t cwl10)⟩

theorem c_iDecText {w : World} {n1 : Bool} {v1 : Value} {lv1 uv1 : Nat} {z1 : List Int} {p1 : Int} (hGT : GlobP w) (hv1 : Sl w lv1 uv1 v1 (z1)) (h63 : z1.length ≤ 4611686018427387904) :
  Ret Tryd.prog 14 [.agg #[.bool n1, v1, .int .i64 p1]] w fun v w' => v = .string (decT n1 z1 p1) ∧ ((decT n1 z1 p1).size ≤ 200) ∧ Chg 0 0 w w' := by
 have hGTl := hGT.lt
 have hv10 := hv1.fit
 refine sx_enter Tryd.func14 rfl Tryd.ntmps14 (nbl rfl) ?_
 refine sx_seq fun K1 k1 => sx_region ?_
 refine sx_box [.bool n1, v1, .int .i64 p1] rfl rfl rfl (fun b2 w3 eb2 sb2 fb2 cb2 => ?_)
 have zw3 := cb2.size
 refine av rfl rfl (wl_nil (q_n (k1 _ _ ?_)))
 refine sx_seq fun K4 k4 => ?_
 refine sx_seq fun K5 k5 => sx_region ?_
 refine sp rfl (px_load rfl (fb2.loadA (vs := [.bool n1, v1, .int .i64 p1]) (look_lit rfl) Tryd.isAgg33 Tryd.sizeOf33)) ?_
 have f6 := hv10.ext cb2
 refine sx_call rfl rfl Tryd.call24 (c_iDecOk f6 (by omega)) (fun v7 w7 p7 => ?_)
 obtain ⟨rfl, c7⟩ := p7
 have zw7 := c7.size
 refine sp rfl (px_notP rfl) ?_
 refine wl_nil (q_n (k5 _ _ ?_))
 refine sx_condP rfl (fun h39 => ?_) (fun h39 => ?_)
 ·
  refine sx_seq fun K8 k8 => sx_region ?_
  refine av rfl rfl (wl_nil (q_n (k8 _ _ ?_)))
  refine sx_retc ?_
  refine q_r (sx_ret1 Tryd.results14 rfl ?_)
  rw [decT_no h39]
  exact ⟨rfl, by decide, (cb2.t c7)⟩
 have hD := Decidable.not_not.1 h39
 have hz := hD.1.1.1
 have hl6 := hD.2.1
 have hp30 := hD.2.2
 have hns := natT_size hz
 have hps := padT_size (s := natT z1) (n := p1 + 1) (by omega)
 refine sx_skip ?_
 refine q_n (k4 _ _ ?_)
 refine sx_seq fun K9 k9 => ?_
 have f10 := hGT.ext cb2
 have f12 := fb2.ext c7
 refine dx_region (fun w' => Chg 0 0 w7 w') (by kernel_rfl) (Chg.zero (Chg.drew _)) ?_
 have d14 := Chg.drew w7
 have s14 : Chg 0 0 w7 (World.drew w7) := Chg.zero (Chg.drew _)
 have y14 : (World.drew w7).heap.size = w7.heap.size := rfl
 generalize World.drew w7 = w14 at *
 have zw14 := d14.size
 refine dt 0 rfl rfl rfl rfl s14 (fun _ hS => px_field rfl xfld33x0) ?_
 refine dt 1 rfl rfl rfl rfl s14 (fun _ hS => px_field rfl xfld31x1) ?_
 refine dt 2 rfl rfl rfl rfl s14 (fun _ hS => px_load rfl ((f12.chg hS (by omega)).load1 rfl Tryd.isAgg22)) ?_
 refine dt 4 rfl rfl rfl rfl s14 (fun _ hS => px_field rfl xfld33x1) ?_
 refine dt 5 rfl rfl rfl rfl s14 (fun _ hS => px_load rfl ((f12.chg hS (by omega)).load1 rfl Tryd.isAgg3)) ?_
 refine dt 6 rfl rfl rfl rfl s14 (fun _ hS => px_add rfl rfl (by omega)) ?_
 refine dx_eff 3 rfl (by kernel_rfl) ?_
 have f15 := (f10.ext c7).ext d14
 have f16 := (f6.ext c7).ext d14
 refine sx_call rfl rfl Tryd.call27 (c_natText f15 f16 (by omega) (by omega)) (fun v17 w17 p17 => ?_)
 obtain ⟨rfl, c17⟩ := p17
 have zw17 := c17.size
 have s18 : Chg 0 0 w7 w17 := (d14.t c17)
 refine wl_nil ?_
 refine dx_next s18 ?_
 refine dx_eff 7 rfl (by kernel_rfl) ?_
 refine sx_call rfl rfl Tryd.call26 (c_iPad (by omega) (by omega)) (fun v19 w19 p19 => ?_)
 obtain ⟨rfl, c19⟩ := p19
 have zw19 := c19.size
 have s20 : Chg 0 0 w7 w19 := ((d14.t c17).t c19)
 refine wl_nil ?_
 refine dx_next s20 ?_
 refine dt 8 rfl rfl rfl rfl s20 (fun _ hS => px_assign rfl) ?_
 refine dx_done (by kernel_rfl) ?_
 refine q_n (k9 _ _ ?_)
 refine sx_sub (Sub.c 1 rfl (.c 2 rfl (.c 3 rfl .nil))) ?_
 refine sx_seq fun K21 k21 => ?_
 refine sx_seq fun K22 k22 => sx_region ?_
 refine sp rfl (px_field rfl xfld33x1) ?_
 have f25 := ((f12.ext d14).ext c17).ext c19
 refine sp rfl (px_load rfl (f25.load1 rfl Tryd.isAgg3)) ?_
 refine sp rfl (px_gt rfl rfl) ?_
 refine wl_nil (q_n (k22 _ _ ?_))
 refine sx_condP rfl (fun h43 => ?_) (fun h43 => ?_)
 ·
  refine sx_seq fun K26 k26 => sx_region ?_
  refine mv rfl rfl (sp rfl (px_lenS rfl Tryd.underlying9) ?_)
  refine sp rfl (px_field rfl xfld33x1) ?_
  refine sp rfl (px_load rfl (f25.load1 rfl Tryd.isAgg3)) ?_
  refine sp rfl (px_sub rfl rfl (by omega)) ?_
  refine av rfl rfl (wl_nil (q_n (k26 _ _ ?_)))
  have f28 := (f15.ext c17).ext c19
  have f30 := (f16.ext c17).ext c19
  refine dx_region (fun w' => Chg 0 0 w19 w') (by kernel_rfl) (Chg.zero (Chg.drew _)) ?_
  have d31 := Chg.drew w19
  have s31 : Chg 0 0 w19 (World.drew w19) := Chg.zero (Chg.drew _)
  have y31 : (World.drew w19).heap.size = w19.heap.size := rfl
  generalize World.drew w19 = w31 at *
  have zw31 := d31.size
  refine dt 0 rfl rfl rfl rfl s31 (fun _ hS => px_move rfl) ?_
  refine dt 1 rfl rfl rfl rfl s31 (fun _ hS => px_move rfl) ?_
  refine dt 2 rfl rfl rfl rfl s31 (fun _ hS => px_strTo (h := ((padT (natT z1) (p1 + 1)).size - p1.toNat)) rfl rfl (by omega) Tryd.underlying9 (by omega)) ?_
  refine dt 3 rfl rfl rfl rfl s31 (fun _ hS => px_cat rfl rfl (by (have e45 : (⟨#[45]⟩ : ByteArray).size = 1 := rfl); (have e46 : (⟨#[46]⟩ : ByteArray).size = 1 := rfl); (try simp only [ByteArray.size_append, ByteArray.size_extract]); omega)) ?_
  refine dt 4 rfl rfl rfl rfl s31 (fun _ hS => px_move rfl) ?_
  refine dt 5 rfl rfl rfl rfl s31 (fun _ hS => px_move rfl) ?_
  refine dt 6 rfl rfl rfl rfl s31 (fun _ hS => px_strFrom (l := ((padT (natT z1) (p1 + 1)).size - p1.toNat)) rfl rfl (by omega) Tryd.underlying9 (by omega)) ?_
  refine dt 7 rfl rfl rfl rfl s31 (fun _ hS => px_cat rfl rfl (by (have e45 : (⟨#[45]⟩ : ByteArray).size = 1 := rfl); (have e46 : (⟨#[46]⟩ : ByteArray).size = 1 := rfl); (try simp only [ByteArray.size_append, ByteArray.size_extract]); omega)) ?_
  refine dt 8 rfl rfl rfl rfl s31 (fun _ hS => px_assign rfl) ?_
  refine dx_done (by kernel_rfl) ?_
  refine q_n (k21 _ _ ?_)
  refine sx_sub (Sub.c 1 rfl (.c 2 rfl (.c 3 rfl .nil))) ?_
  refine sx_seq fun K32 k32 => ?_
  refine sx_seq fun K33 k33 => sx_region ?_
  refine sp rfl (px_field rfl xfld33x0) ?_
  refine sp rfl (px_field rfl xfld31x0) ?_
  have f34 := f25.ext d31
  refine sp rfl (px_load rfl (f34.load1 rfl Tryd.isAgg4)) ?_
  refine wl_nil (q_n (k33 _ _ ?_))
  refine sx_condB rfl (fun h47 => ?_) (fun h47 => ?_)
  ·
   refine sx_region ?_
   refine mv rfl rfl (sp rfl (px_cat rfl rfl (by (have e45 : (⟨#[45]⟩ : ByteArray).size = 1 := rfl); (have e46 : (⟨#[46]⟩ : ByteArray).size = 1 := rfl); (try simp only [ByteArray.size_append, ByteArray.size_extract]); omega)) ?_)
   refine av rfl rfl (wl_nil (q_n (k32 _ _ ?_)))
   refine sx_seq fun K35 k35 => sx_region ?_
   refine mv rfl rfl (av rfl rfl (wl_nil (q_n (k35 _ _ ?_))))
   refine sx_retc ?_
   refine sx_ret1 Tryd.results14 rfl ?_
   have e : (⟨#[45]⟩) ++ ((((padT (natT z1) (p1 + 1)).extract 0 ((padT (natT z1) (p1 + 1)).size - p1.toNat)) ++ (⟨#[46]⟩)) ++ ((padT (natT z1) (p1 + 1)).extract ((padT (natT z1) (p1 + 1)).size - p1.toNat) (padT (natT z1) (p1 + 1)).size)) = decT n1 z1 p1 := by unfold decT sgT ptT; rw [if_pos hD]; simp [h43, h47]
   exact ⟨congrArg Value.string e, by rw [← e]; (try simp only [ByteArray.size_append, ByteArray.size_extract]); (try have e45 : (⟨#[45]⟩ : ByteArray).size = 1 := rfl); (try have e46 : (⟨#[46]⟩ : ByteArray).size = 1 := rfl); omega, (((((cb2.t c7).t d14).t c17).t c19).t d31)⟩
  refine sx_skip ?_
  refine q_n (k32 _ _ ?_)
  refine sx_seq fun K36 k36 => sx_region ?_
  refine mv rfl rfl (av rfl rfl (wl_nil (q_n (k36 _ _ ?_))))
  refine sx_retc ?_
  refine sx_ret1 Tryd.results14 rfl ?_
  have e : (((padT (natT z1) (p1 + 1)).extract 0 ((padT (natT z1) (p1 + 1)).size - p1.toNat)) ++ (⟨#[46]⟩)) ++ ((padT (natT z1) (p1 + 1)).extract ((padT (natT z1) (p1 + 1)).size - p1.toNat) (padT (natT z1) (p1 + 1)).size) = decT n1 z1 p1 := by unfold decT sgT ptT; rw [if_pos hD]; simp [h43, h47]
  exact ⟨congrArg Value.string e, by rw [← e]; (try simp only [ByteArray.size_append, ByteArray.size_extract]); (try have e45 : (⟨#[45]⟩ : ByteArray).size = 1 := rfl); (try have e46 : (⟨#[46]⟩ : ByteArray).size = 1 := rfl); omega, (((((cb2.t c7).t d14).t c17).t c19).t d31)⟩
 refine sx_skip ?_
 refine q_n (k21 _ _ ?_)
 refine sx_seq fun K37 k37 => ?_
 refine sx_seq fun K38 k38 => sx_region ?_
 refine sp rfl (px_field rfl xfld33x0) ?_
 refine sp rfl (px_field rfl xfld31x0) ?_
 refine sp rfl (px_load rfl (f25.load1 rfl Tryd.isAgg4)) ?_
 refine wl_nil (q_n (k38 _ _ ?_))
 refine sx_condB rfl (fun h47 => ?_) (fun h47 => ?_)
 ·
  refine sx_region ?_
  refine mv rfl rfl (sp rfl (px_cat rfl rfl (by (have e45 : (⟨#[45]⟩ : ByteArray).size = 1 := rfl); (have e46 : (⟨#[46]⟩ : ByteArray).size = 1 := rfl); (try simp only [ByteArray.size_append, ByteArray.size_extract]); omega)) ?_)
  refine av rfl rfl (wl_nil (q_n (k37 _ _ ?_)))
  refine sx_seq fun K39 k39 => sx_region ?_
  refine mv rfl rfl (av rfl rfl (wl_nil (q_n (k39 _ _ ?_))))
  refine sx_retc ?_
  refine sx_ret1 Tryd.results14 rfl ?_
  have e : (⟨#[45]⟩) ++ (padT (natT z1) (p1 + 1)) = decT n1 z1 p1 := by unfold decT sgT ptT; rw [if_pos hD]; simp [h43, h47]
  exact ⟨congrArg Value.string e, by rw [← e]; (try simp only [ByteArray.size_append, ByteArray.size_extract]); (try have e45 : (⟨#[45]⟩ : ByteArray).size = 1 := rfl); (try have e46 : (⟨#[46]⟩ : ByteArray).size = 1 := rfl); omega, ((((cb2.t c7).t d14).t c17).t c19)⟩
 refine sx_skip ?_
 refine q_n (k37 _ _ ?_)
 refine sx_seq fun K40 k40 => sx_region ?_
 refine mv rfl rfl (av rfl rfl (wl_nil (q_n (k40 _ _ ?_))))
 refine sx_retc ?_
 refine sx_ret1 Tryd.results14 rfl ?_
 have e : padT (natT z1) (p1 + 1) = decT n1 z1 p1 := by unfold decT sgT ptT; rw [if_pos hD]; simp [h43, h47]
 exact ⟨congrArg Value.string e, by rw [← e]; (try simp only [ByteArray.size_append, ByteArray.size_extract]); (try have e45 : (⟨#[45]⟩ : ByteArray).size = 1 := rfl); (try have e46 : (⟨#[46]⟩ : ByteArray).size = 1 := rfl); omega, ((((cb2.t c7).t d14).t c17).t c19)⟩

theorem c_iRateText {w : World} {f1 : ByteArray} {t1 : ByteArray} {n1 : Bool} {v1 : Value} {lv1 uv1 : Nat} {z1 : List Int} {p1 : Int} (hG0 : Glob w) (hGT : GlobP w) (hv1 : Sl w lv1 uv1 v1 (z1)) (h63 : z1.length ≤ 4611686018427387904) :
  Ret Tryd.prog 7 [.agg #[.string f1, .string t1, .bool n1, v1, .int .i64 p1]] w fun v w' => v = .string (ratT f1 t1 n1 z1 p1) ∧ Chg 0 0 w w' := by
 have hGTl := hGT.lt
 have hv10 := hv1.fit
 refine sx_enter Tryd.func7 rfl Tryd.ntmps7 (nbl rfl) ?_
 refine sx_seq fun K1 k1 => sx_region ?_
 refine sx_box [.string f1, .string t1, .bool n1, v1, .int .i64 p1] rfl rfl rfl (fun b2 w3 eb2 sb2 fb2 cb2 => ?_)
 have zw3 := cb2.size
 refine av rfl rfl (wl_nil (q_n (k1 _ _ ?_)))
 refine sx_seq fun K4 k4 => ?_
 refine sx_seq fun K5 k5 => sx_region ?_
 refine sp rfl (px_load rfl (fb2.loadA (vs := [.string f1, .string t1, .bool n1, v1, .int .i64 p1]) (look_lit rfl) Tryd.isAgg35 Tryd.sizeOf35)) ?_
 have f6 := hG0.ext cb2
 have f7 := hv10.ext cb2
 refine sx_call rfl rfl Tryd.call13 (c_iRateOk f6 f7 (by omega)) (fun v8 w8 p8 => ?_)
 obtain ⟨rfl, c8⟩ := p8
 have zw8 := c8.size
 refine sp rfl (px_notP rfl) ?_
 refine wl_nil (q_n (k5 _ _ ?_))
 refine sx_condP rfl (fun h158 => ?_) (fun h158 => ?_)
 ·
  refine sx_seq fun K9 k9 => sx_region ?_
  refine av rfl rfl (wl_nil (q_n (k9 _ _ ?_)))
  refine sx_retc ?_
  refine q_r (sx_ret1 Tryd.results7 rfl ?_)
  rw [ratT_no h158]
  exact ⟨rfl, (cb2.t c8)⟩
 have hM := Decidable.not_not.1 h158
 have hks := known_size hM.1
 have hks2 := known_size hM.2.1
 refine sx_skip ?_
 refine q_n (k4 _ _ ?_)
 refine sx_seq fun K10 k10 => ?_
 have f11 := f6.ext c8
 have f12 := hGT.ext cb2
 have f14 := fb2.ext c8
 refine dx_region (fun w' => Chg 0 0 w8 w') (by kernel_rfl) (Chg.zero (Chg.drew _)) ?_
 have d16 := Chg.drew w8
 have s16 : Chg 0 0 w8 (World.drew w8) := Chg.zero (Chg.drew _)
 have y16 : (World.drew w8).heap.size = w8.heap.size := rfl
 generalize World.drew w8 = w16 at *
 have zw16 := d16.size
 refine dt 0 rfl rfl rfl rfl s16 (fun _ hS => px_field rfl xfld35x0) ?_
 refine dt 1 rfl rfl rfl rfl s16 (fun _ hS => px_load rfl ((f14.chg hS (by omega)).load1 rfl Tryd.isAgg9)) ?_
 refine dt 2 rfl rfl rfl rfl s16 (fun _ hS => px_cat rfl rfl (by (have e32 : (⟨#[32]⟩ : ByteArray).size = 1 := rfl); (try simp only [ByteArray.size_append]); omega)) ?_
 refine dt 3 rfl rfl rfl rfl s16 (fun _ hS => px_field rfl xfld35x1) ?_
 refine dt 4 rfl rfl rfl rfl s16 (fun _ hS => px_load rfl ((f14.chg hS (by omega)).load1 rfl Tryd.isAgg9)) ?_
 refine dt 5 rfl rfl rfl rfl s16 (fun _ hS => px_cat rfl rfl (by (have e32 : (⟨#[32]⟩ : ByteArray).size = 1 := rfl); (try simp only [ByteArray.size_append]); omega)) ?_
 refine dt 6 rfl rfl rfl rfl s16 (fun _ hS => px_cat rfl rfl (by (have e32 : (⟨#[32]⟩ : ByteArray).size = 1 := rfl); (try simp only [ByteArray.size_append]); omega)) ?_
 refine dt 7 rfl rfl rfl rfl s16 (fun _ hS => px_field rfl xfld35x2) ?_
 refine dt 8 rfl rfl rfl rfl s16 (fun _ hS => px_load rfl ((f14.chg hS (by omega)).loadA (vs := [.bool n1, v1, .int .i64 p1]) (look_lit rfl) Tryd.isAgg33 Tryd.sizeOf33)) ?_
 refine dx_eff 9 rfl (by kernel_rfl) ?_
 have f17 := (f12.ext c8).ext d16
 have f18 := (f7.ext c8).ext d16
 refine sx_call rfl rfl Tryd.call14 (c_iDecText f17 f18 (by omega)) (fun v19 w19 p19 => ?_)
 obtain ⟨rfl, hsz19, c19⟩ := p19
 have zw19 := c19.size
 have s20 : Chg 0 0 w8 w19 := (d16.t c19)
 refine wl_nil ?_
 refine dx_next s20 ?_
 refine dt 10 rfl rfl rfl rfl s20 (fun _ hS => px_cat rfl rfl (by (have e32 : (⟨#[32]⟩ : ByteArray).size = 1 := rfl); (try simp only [ByteArray.size_append]); omega)) ?_
 refine dt 11 rfl rfl rfl rfl s20 (fun _ hS => px_assign rfl) ?_
 refine dx_done (by kernel_rfl) ?_
 refine q_n (k10 _ _ ?_)
 refine sx_sub (Sub.c 2 rfl .nil) ?_
 refine sx_retc ?_
 refine sx_ret1 Tryd.results7 rfl ?_
 rw [ratT_ok hM]
 exact ⟨rfl, (((cb2.t c8).t d16).t c19)⟩

theorem c_eqIntS {w : World} {va : Value} {lva uva : Nat} {zs : List Int} {vb : Value} {lvb uvb : Nat} {ys : List Int} (hva : Sl w lva uva va (zs)) (hvb : Sl w lvb uvb vb (ys)) (h63 : zs.length ≤ 4611686018427387904 ∧ ys.length ≤ 4611686018427387904) :
  Ret Tryd.prog 42 [va, vb] w fun v w' => v = .bool (decide (zs = ys)) ∧ Chg 0 0 w w' := by
 have hva0 := hva.fit
 have hvb0 := hvb.fit
 have hneq : zs.length ≠ ys.length → zs ≠ ys := fun h e => h (by rw [e])
 refine sx_enter Tryd.func42 rfl Tryd.ntmps42 (nbl rfl) ?_
 refine sx_seq fun K1 k1 => sx_region ?_
 refine av rfl rfl (wl_nil (q_n (k1 _ _ ?_)))
 refine sx_seq fun K2 k2 => ?_
 refine sx_seq fun K3 k3 => sx_region ?_
 refine mv rfl rfl (sp rfl (px_len rfl Tryd.underlying22 hva0) ?_)
 refine mv rfl rfl (sp rfl (px_len rfl Tryd.underlying22 hvb0) ?_)
 refine sp rfl (px_ne rfl rfl) ?_
 refine wl_nil (q_n (k3 _ _ ?_))
 refine sx_condP rfl (fun h210 => ?_) (fun h210 => ?_)
 ·
  refine sx_seq fun K4 k4 => sx_region ?_
  refine av rfl rfl (wl_nil (q_n (k4 _ _ ?_)))
  refine sx_retc ?_
  refine q_r (sx_ret1 Tryd.results42 rfl ?_)
  exact ⟨bFalse (hneq (by omega)), (Chg.refl 0 0 _)⟩
 refine sx_skip ?_
 refine q_n (k2 _ _ ?_)
 refine sx_seq fun K5 k5 => ?_
 refine sx_seq fun K6 k6 => sx_region ?_
 refine av rfl rfl (wl_nil (q_n (k6 _ _ ?_)))
 refine sx_block ?_
 refine sx_loop (fun mm aa w' => ∃ (k : Nat), Agr 26 [(0, va), (1, vb), (5, .int .i64 ↑k)] aa ∧ Chg 0 0 w w' ∧ (mm = zs.length - k) ∧ (k ≤ zs.length) ∧ (zs.take k = ys.take k)) (_) (fun a ha => ⟨0, ha.sub (Sub.c 0 rfl (.c 1 rfl (.c 5 (look_int (t := 5) rfl (by first | omega | simp)) .nil))), Chg.refl _ _ _, rfl, by omega, by simp⟩) ?_
 rintro mm aa wl7 ⟨k, hAwl7, cwl7, hm, hk, he⟩
 refine (show cw Tryd.prog 26 _ _ _ wl7 from ?_) aa hAwl7
 clear hAwl7
 have zwl7 := cwl7.size
 refine sx_seq fun K8 k8 => ?_
 refine sx_seq fun K9 k9 => sx_region ?_
 refine mv rfl rfl (mv rfl rfl ?_)
 have f10 := hva0.ext cwl7
 refine sp rfl (px_len rfl Tryd.underlying22 f10) ?_
 refine sp rfl (px_lt rfl rfl) ?_
 refine wl_nil (q_n (k9 _ _ ?_))
 refine sx_condP rfl (fun h213 => ?_) (fun h213 => ?_)
 ·
  refine sx_skip ?_
  refine q_n (k8 _ _ ?_)
  refine sx_seq fun K11 k11 => ?_
  refine sx_block ?_
  refine sx_seq fun K12 k12 => ?_
  have f13 := hvb0.ext cwl7
  refine dx_region (fun w' => Chg 0 0 wl7 w') (by kernel_rfl) (Chg.zero (Chg.drew _)) ?_
  have d14 := Chg.drew wl7
  have s14 : Chg 0 0 wl7 (World.drew wl7) := Chg.zero (Chg.drew _)
  have y14 : (World.drew wl7).heap.size = wl7.heap.size := rfl
  generalize World.drew wl7 = w14 at *
  have zw14 := d14.size
  refine dt 0 rfl rfl rfl rfl s14 (fun _ hS => px_move rfl) ?_
  refine dt 1 rfl rfl rfl rfl s14 (fun _ hS => px_move rfl) ?_
  refine dt 2 rfl rfl rfl rfl s14 (fun _ hS => px_index1 (j := k) rfl rfl (by omega) Tryd.underlying22 Tryd.sizeOf3 ((f10).chg hS (by omega)) (by omega)) ?_
  refine dt 3 rfl rfl rfl rfl s14 (fun _ hS => px_load rfl (((f10).chg hS (by omega)).load1 (at_int (by omega)) Tryd.isAgg3)) ?_
  refine dt 4 rfl rfl rfl rfl s14 (fun _ hS => px_move rfl) ?_
  refine dt 5 rfl rfl rfl rfl s14 (fun _ hS => px_move rfl) ?_
  refine dt 6 rfl rfl rfl rfl s14 (fun _ hS => px_index1 (j := k) rfl rfl (by omega) Tryd.underlying22 Tryd.sizeOf3 ((f13).chg hS (by omega)) (by omega)) ?_
  refine dt 7 rfl rfl rfl rfl s14 (fun _ hS => px_load rfl (((f13).chg hS (by omega)).load1 (at_int (by omega)) Tryd.isAgg3)) ?_
  refine dt 8 rfl rfl rfl rfl s14 (fun _ hS => px_ne rfl rfl) ?_
  refine dx_done (by kernel_rfl) ?_
  refine q_n (k12 _ _ ?_)
  refine sx_sub (Sub.c 0 rfl (.c 1 rfl (.c 5 rfl (.c 25 rfl .nil)))) ?_
  refine sx_condP rfl (fun h214 => ?_) (fun h214 => ?_)
  ·
   refine sx_seq fun K15 k15 => sx_region ?_
   refine av rfl rfl (wl_nil (q_n (k15 _ _ ?_)))
   refine sx_retc ?_
   refine q_br (q_r (q_r (q_br (q_r (sx_ret1 Tryd.results42 rfl ?_)))))
   exact ⟨bFalse (ne_of_getD h214), (cwl7.t d14)⟩
  refine sx_skip ?_
  refine q_bn (q_n (k11 _ _ ?_))
  refine sx_region ?_
  refine mv rfl rfl (sp rfl (px_add rfl rfl (by omega)) ?_)
  refine av rfl rfl (wl_nil ?_)
  exact fun a ha => ⟨_, by omega, (k + 1), ha.sub (Sub.c 0 rfl (.c 1 rfl (.c 5 (look_int (t := 5) rfl (by first | omega | simp)) .nil))), (cwl7.t d14), rfl, by omega, take_succ_eq he (by omega) (by omega) (Decidable.not_not.1 h214)⟩
 refine sx_exit ?_
 refine q_e (q_e (q_bx (q_n (k5 _ _ ?_))))
 refine sx_seq fun K16 k16 => sx_region ?_
 refine av rfl rfl (wl_nil (q_n (k16 _ _ ?_)))
 refine sx_retc ?_
 refine sx_ret1 Tryd.results42 rfl ?_
 have e1 : k = zs.length := by omega
 rw [e1, List.take_length, List.take_of_length_le (by omega)] at he
 exact ⟨bTrue he, cwl7⟩

theorem c_eqSigned {w : World} {n1 : Bool} {v1 : Value} {lv1 uv1 : Nat} {z1 : List Int} {n2 : Bool} {v2 : Value} {lv2 uv2 : Nat} {z2 : List Int} (hv1 : Sl w lv1 uv1 v1 (z1)) (hv2 : Sl w lv2 uv2 v2 (z2)) (h63 : z1.length ≤ 4611686018427387904 ∧ z2.length ≤ 4611686018427387904) :
  Ret Tryd.prog 28 [.agg #[.bool n1, v1], .agg #[.bool n2, v2]] w fun v w' => v = .bool (decide (n1 = n2 ∧ z1 = z2)) ∧ Chg 0 0 w w' := by
 have hv10 := hv1.fit
 have hv20 := hv2.fit
 refine sx_enter Tryd.func28 rfl Tryd.ntmps28 (nbl rfl) ?_
 refine sx_seq fun K1 k1 => sx_region ?_
 refine sx_box [.bool n1, v1] rfl rfl rfl (fun b2 w3 eb2 sb2 fb2 cb2 => ?_)
 have zw3 := cb2.size
 refine sx_box [.bool n2, v2] rfl rfl rfl (fun b4 w5 eb4 sb4 fb4 cb4 => ?_)
 have zw5 := cb4.size
 refine av rfl rfl (wl_nil (q_n (k1 _ _ ?_)))
 refine sx_seq fun K6 k6 => ?_
 refine sx_seq fun K7 k7 => sx_region ?_
 refine sp rfl (px_field rfl xfld31x0) ?_
 have f8 := fb2.ext cb4
 refine sp rfl (px_load rfl (f8.load1 rfl Tryd.isAgg4)) ?_
 refine sp rfl (px_field rfl xfld31x0) ?_
 refine sp rfl (px_load rfl (fb4.load1 rfl Tryd.isAgg4)) ?_
 refine sp rfl (px_neB Tryd.underlying4 rfl rfl) ?_
 refine wl_nil (q_n (k7 _ _ ?_))
 refine sx_condB rfl (fun h263 => ?_) (fun h263 => ?_)
 ·
  refine sx_seq fun K9 k9 => sx_region ?_
  refine av rfl rfl (wl_nil (q_n (k9 _ _ ?_)))
  refine sx_retc ?_
  refine q_r (sx_ret1 Tryd.results28 rfl ?_)
  exact ⟨(by first | exact bTrue (by grind) | exact bFalse (by grind) | exact bIff (by grind)), (cb2.t cb4)⟩
 refine sx_skip ?_
 refine q_n (k6 _ _ ?_)
 refine sx_seq fun K10 k10 => ?_
 refine sx_seq fun K11 k11 => sx_region ?_
 refine sp rfl (px_field rfl xfld31x1) ?_
 refine sp rfl (px_load rfl (f8.load1 rfl Tryd.isAgg22)) ?_
 refine sp rfl (px_field rfl xfld31x1) ?_
 refine sp rfl (px_load rfl (fb4.load1 rfl Tryd.isAgg22)) ?_
 have f12 := hv10.ext cb2
 have f13 := f12.ext cb4
 have f14 := hv20.ext cb2
 have f15 := f14.ext cb4
 refine sx_call rfl rfl Tryd.call42 (c_eqIntS f13 f15 (by omega)) (fun v16 w16 p16 => ?_)
 obtain ⟨rfl, c16⟩ := p16
 have zw16 := c16.size
 refine sp rfl (px_notP rfl) ?_
 refine wl_nil (q_n (k11 _ _ ?_))
 refine sx_sub (Sub.c 4 rfl (.c 15 rfl .nil)) ?_
 refine sx_condP rfl (fun h266 => ?_) (fun h266 => ?_)
 ·
  refine sx_seq fun K17 k17 => sx_region ?_
  refine av rfl rfl (wl_nil (q_n (k17 _ _ ?_)))
  refine sx_retc ?_
  refine q_r (sx_ret1 Tryd.results28 rfl ?_)
  exact ⟨(by first | exact bTrue (by grind) | exact bFalse (by grind) | exact bIff (by grind)), ((cb2.t cb4).t c16)⟩
 refine sx_skip ?_
 refine q_n (k10 _ _ ?_)
 refine sx_seq fun K18 k18 => sx_region ?_
 refine av rfl rfl (wl_nil (q_n (k18 _ _ ?_)))
 refine sx_retc ?_
 refine sx_ret1 Tryd.results28 rfl ?_
 exact ⟨(by first | exact bTrue (by grind) | exact bFalse (by grind) | exact bIff (by grind)), ((cb2.t cb4).t c16)⟩

theorem c_eqDec {w : World} {n1 : Bool} {v1 : Value} {lv1 uv1 : Nat} {z1 : List Int} {p1 : Int} {n2 : Bool} {v2 : Value} {lv2 uv2 : Nat} {z2 : List Int} {p2 : Int} (hv1 : Sl w lv1 uv1 v1 (z1)) (hv2 : Sl w lv2 uv2 v2 (z2)) (h63 : z1.length ≤ 4611686018427387904 ∧ z2.length ≤ 4611686018427387904) :
  Ret Tryd.prog 15 [.agg #[.bool n1, v1, .int .i64 p1], .agg #[.bool n2, v2, .int .i64 p2]] w fun v w' => v = .bool (decide (n1 = n2 ∧ z1 = z2 ∧ p1 = p2)) ∧ Chg 0 0 w w' := by
 have hv10 := hv1.fit
 have hv20 := hv2.fit
 refine sx_enter Tryd.func15 rfl Tryd.ntmps15 (nbl rfl) ?_
 refine sx_seq fun K1 k1 => sx_region ?_
 refine sx_box [.bool n1, v1, .int .i64 p1] rfl rfl rfl (fun b2 w3 eb2 sb2 fb2 cb2 => ?_)
 have zw3 := cb2.size
 refine sx_box [.bool n2, v2, .int .i64 p2] rfl rfl rfl (fun b4 w5 eb4 sb4 fb4 cb4 => ?_)
 have zw5 := cb4.size
 refine av rfl rfl (wl_nil (q_n (k1 _ _ ?_)))
 refine sx_seq fun K6 k6 => ?_
 refine sx_seq fun K7 k7 => sx_region ?_
 refine sp rfl (px_field rfl xfld33x0) ?_
 have f8 := fb2.ext cb4
 refine sp rfl (px_load rfl (f8.loadA (vs := [.bool n1, v1]) (look_lit rfl) Tryd.isAgg31 Tryd.sizeOf31)) ?_
 refine sp rfl (px_field rfl xfld33x0) ?_
 refine sp rfl (px_load rfl (fb4.loadA (vs := [.bool n2, v2]) (look_lit rfl) Tryd.isAgg31 Tryd.sizeOf31)) ?_
 have f9 := hv10.ext cb2
 have f10 := f9.ext cb4
 have f11 := hv20.ext cb2
 have f12 := f11.ext cb4
 refine sx_call rfl rfl Tryd.call28 (c_eqSigned f10 f12 (by omega)) (fun v13 w13 p13 => ?_)
 obtain ⟨rfl, c13⟩ := p13
 have zw13 := c13.size
 refine sp rfl (px_notP rfl) ?_
 refine wl_nil (q_n (k7 _ _ ?_))
 refine sx_condP rfl (fun h405 => ?_) (fun h405 => ?_)
 ·
  refine sx_seq fun K14 k14 => sx_region ?_
  refine av rfl rfl (wl_nil (q_n (k14 _ _ ?_)))
  refine sx_retc ?_
  refine q_r (sx_ret1 Tryd.results15 rfl ?_)
  exact ⟨(by first | exact bTrue (by grind) | exact bFalse (by grind) | exact bIff (by grind)), ((cb2.t cb4).t c13)⟩
 refine sx_skip ?_
 refine q_n (k6 _ _ ?_)
 refine sx_seq fun K15 k15 => ?_
 refine sx_seq fun K16 k16 => sx_region ?_
 refine sp rfl (px_field rfl xfld33x1) ?_
 have f17 := f8.ext c13
 refine sp rfl (px_load rfl (f17.load1 rfl Tryd.isAgg3)) ?_
 refine sp rfl (px_field rfl xfld33x1) ?_
 have f18 := fb4.ext c13
 refine sp rfl (px_load rfl (f18.load1 rfl Tryd.isAgg3)) ?_
 refine sp rfl (px_ne rfl rfl) ?_
 refine wl_nil (q_n (k16 _ _ ?_))
 refine sx_sub (Sub.c 4 rfl (.c 15 rfl .nil)) ?_
 refine sx_condP rfl (fun h408 => ?_) (fun h408 => ?_)
 ·
  refine sx_seq fun K19 k19 => sx_region ?_
  refine av rfl rfl (wl_nil (q_n (k19 _ _ ?_)))
  refine sx_retc ?_
  refine q_r (sx_ret1 Tryd.results15 rfl ?_)
  exact ⟨(by first | exact bTrue (by grind) | exact bFalse (by grind) | exact bIff (by grind)), ((cb2.t cb4).t c13)⟩
 refine sx_skip ?_
 refine q_n (k15 _ _ ?_)
 refine sx_seq fun K20 k20 => sx_region ?_
 refine av rfl rfl (wl_nil (q_n (k20 _ _ ?_)))
 refine sx_retc ?_
 refine sx_ret1 Tryd.results15 rfl ?_
 exact ⟨(by first | exact bTrue (by grind) | exact bFalse (by grind) | exact bIff (by grind)), ((cb2.t cb4).t c13)⟩

theorem c_eqRate {w : World} {f1 : ByteArray} {t1 : ByteArray} {n1 : Bool} {v1 : Value} {lv1 uv1 : Nat} {z1 : List Int} {p1 : Int} {f2 : ByteArray} {t2 : ByteArray} {n2 : Bool} {v2 : Value} {lv2 uv2 : Nat} {z2 : List Int} {p2 : Int} (hv1 : Sl w lv1 uv1 v1 (z1)) (hv2 : Sl w lv2 uv2 v2 (z2)) (h63 : z1.length ≤ 4611686018427387904 ∧ z2.length ≤ 4611686018427387904) :
  Ret Tryd.prog 8 [.agg #[.string f1, .string t1, .bool n1, v1, .int .i64 p1], .agg #[.string f2, .string t2, .bool n2, v2, .int .i64 p2]] w fun v w' => v = .bool (decide (f1 = f2 ∧ t1 = t2 ∧ n1 = n2 ∧ z1 = z2 ∧ p1 = p2)) ∧ Chg 0 0 w w' := by
 have hv10 := hv1.fit
 have hv20 := hv2.fit
 refine sx_enter Tryd.func8 rfl Tryd.ntmps8 (nbl rfl) ?_
 refine sx_seq fun K1 k1 => sx_region ?_
 refine sx_box [.string f1, .string t1, .bool n1, v1, .int .i64 p1] rfl rfl rfl (fun b2 w3 eb2 sb2 fb2 cb2 => ?_)
 have zw3 := cb2.size
 refine sx_box [.string f2, .string t2, .bool n2, v2, .int .i64 p2] rfl rfl rfl (fun b4 w5 eb4 sb4 fb4 cb4 => ?_)
 have zw5 := cb4.size
 refine av rfl rfl (wl_nil (q_n (k1 _ _ ?_)))
 refine sx_seq fun K6 k6 => ?_
 refine sx_seq fun K7 k7 => sx_region ?_
 refine sp rfl (px_field rfl xfld35x0) ?_
 have f8 := fb2.ext cb4
 refine sp rfl (px_load rfl (f8.load1 rfl Tryd.isAgg9)) ?_
 refine sp rfl (px_field rfl xfld35x0) ?_
 refine sp rfl (px_load rfl (fb4.load1 rfl Tryd.isAgg9)) ?_
 refine sp rfl (px_neS rfl rfl) ?_
 refine wl_nil (q_n (k7 _ _ ?_))
 refine sx_condP rfl (fun h557 => ?_) (fun h557 => ?_)
 ·
  refine sx_seq fun K9 k9 => sx_region ?_
  refine av rfl rfl (wl_nil (q_n (k9 _ _ ?_)))
  refine sx_retc ?_
  refine q_r (sx_ret1 Tryd.results8 rfl ?_)
  exact ⟨(by first | exact bTrue (by grind) | exact bFalse (by grind) | exact bIff (by grind)), (cb2.t cb4)⟩
 refine sx_skip ?_
 refine q_n (k6 _ _ ?_)
 refine sx_seq fun K10 k10 => ?_
 refine sx_seq fun K11 k11 => sx_region ?_
 refine sp rfl (px_field rfl xfld35x1) ?_
 refine sp rfl (px_load rfl (f8.load1 rfl Tryd.isAgg9)) ?_
 refine sp rfl (px_field rfl xfld35x1) ?_
 refine sp rfl (px_load rfl (fb4.load1 rfl Tryd.isAgg9)) ?_
 refine sp rfl (px_neS rfl rfl) ?_
 refine wl_nil (q_n (k11 _ _ ?_))
 refine sx_sub (Sub.c 2 rfl (.c 3 rfl (.c 4 rfl (.c 14 rfl .nil)))) ?_
 refine sx_condP rfl (fun h560 => ?_) (fun h560 => ?_)
 ·
  refine sx_seq fun K12 k12 => sx_region ?_
  refine av rfl rfl (wl_nil (q_n (k12 _ _ ?_)))
  refine sx_retc ?_
  refine q_r (sx_ret1 Tryd.results8 rfl ?_)
  exact ⟨(by first | exact bTrue (by grind) | exact bFalse (by grind) | exact bIff (by grind)), (cb2.t cb4)⟩
 refine sx_skip ?_
 refine q_n (k10 _ _ ?_)
 refine sx_seq fun K13 k13 => ?_
 refine sx_seq fun K14 k14 => sx_region ?_
 refine sp rfl (px_field rfl xfld35x2) ?_
 refine sp rfl (px_load rfl (f8.loadA (vs := [.bool n1, v1, .int .i64 p1]) (look_lit rfl) Tryd.isAgg33 Tryd.sizeOf33)) ?_
 refine sp rfl (px_field rfl xfld35x2) ?_
 refine sp rfl (px_load rfl (fb4.loadA (vs := [.bool n2, v2, .int .i64 p2]) (look_lit rfl) Tryd.isAgg33 Tryd.sizeOf33)) ?_
 have f15 := hv10.ext cb2
 have f16 := f15.ext cb4
 have f17 := hv20.ext cb2
 have f18 := f17.ext cb4
 refine sx_call rfl rfl Tryd.call15 (c_eqDec f16 f18 (by omega)) (fun v19 w19 p19 => ?_)
 obtain ⟨rfl, c19⟩ := p19
 have zw19 := c19.size
 refine sp rfl (px_notP rfl) ?_
 refine wl_nil (q_n (k14 _ _ ?_))
 refine sx_condP rfl (fun h563 => ?_) (fun h563 => ?_)
 ·
  refine sx_seq fun K20 k20 => sx_region ?_
  refine av rfl rfl (wl_nil (q_n (k20 _ _ ?_)))
  refine sx_retc ?_
  refine q_r (sx_ret1 Tryd.results8 rfl ?_)
  exact ⟨(by first | exact bTrue (by grind) | exact bFalse (by grind) | exact bIff (by grind)), ((cb2.t cb4).t c19)⟩
 refine sx_skip ?_
 refine q_n (k13 _ _ ?_)
 refine sx_seq fun K21 k21 => sx_region ?_
 refine av rfl rfl (wl_nil (q_n (k21 _ _ ?_)))
 refine sx_retc ?_
 refine sx_ret1 Tryd.results8 rfl ?_
 exact ⟨(by first | exact bTrue (by grind) | exact bFalse (by grind) | exact bIff (by grind)), ((cb2.t cb4).t c19)⟩

end Go.Proofs.YtadmofdamcajkaaDoor
