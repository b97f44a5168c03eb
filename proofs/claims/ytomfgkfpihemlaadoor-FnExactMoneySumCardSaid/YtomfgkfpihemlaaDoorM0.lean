/- Contracts of functions of the program: what each call returns, and that it changes nothing that was. Conditions: as each says. -/
import Derived.Test.YtomfgkfpihemlaaDoorTy
import Derived.Test.YtomfgkfpihemlaaDoorNatJ
import Derived.Test.YtomfgkfpihemlaaDoorNatL
import Derived.Test.YtomfgkfpihemlaaDoorSxD
import Derived.Test.YtomfgkfpihemlaaDoorPair
import Derived.Test.YtomfgkfpihemlaaDoorNatQ
import Derived.Test.YtomfgkfpihemlaaDoorSxP
set_option linter.unusedVariables false
set_option linter.unusedSimpArgs false
namespace Go.Proofs.YtomfgkfpihemlaaDoor
open Go Go.RowKit
set_option maxRecDepth 100000
set_option maxHeartbeats 1000000
theorem c_szIntS {w : World} {va : Value} {lva uva : Nat} {zs : List Int} {n : Int} (hva : Sl w lva uva va (zs)) (bzs : zs.length ≤ 9223372036854775807) (hn : 0 ≤ n ∧ n ≤ 1048576) :
  Ret Tryd.prog 102 [va, .int .i64 n] w fun v w' => ∃ r, v = .int .i64 (r) ∧ (r < 0 ∨ (0 ≤ r ∧ r = n - (zs).length)) ∧ Chg 0 0 w w' := by
 have hva0 := hva.fit
 refine sx_enter Tryd.func102 rfl Tryd.ntmps102 (nbl rfl) ?_
 refine sx_seq fun K1 k1 => sx_region ?_
 refine av rfl rfl (wl_nil (q_n (k1 _ _ ?_)))
 refine sx_seq fun K2 k2 => sx_region ?_
 refine mv rfl rfl (mv rfl rfl (sp rfl (px_len rfl Tryd.underlying22 hva0) ?_))
 refine sp rfl (px_sub rfl rfl (by omega)) ?_
 refine av rfl rfl (wl_nil (q_n (k2 _ _ ?_)))
 refine sx_seq fun K3 k3 => ?_
 refine sx_seq fun K4 k4 => sx_region ?_
 refine mv rfl rfl (sp rfl (px_lt rfl rfl) ?_)
 refine wl_nil (q_n (k4 _ _ ?_))
 refine sx_condP rfl (fun h248 => ?_) (fun h248 => ?_)
 ·
  refine sx_seq fun K5 k5 => sx_region ?_
  refine av rfl rfl (wl_nil (q_n (k5 _ _ ?_)))
  refine sx_retc ?_
  refine q_r (sx_ret1 Tryd.results102 rfl ?_)
  exact ⟨_, rfl, by omega, (Chg.refl 0 0 _)⟩
 refine sx_skip ?_
 refine q_n (k3 _ _ ?_)
 refine sx_seq fun K6 k6 => sx_region ?_
 refine mv rfl rfl (av rfl rfl (wl_nil (q_n (k6 _ _ ?_))))
 refine sx_retc ?_
 refine sx_ret1 Tryd.results102 rfl ?_
 exact ⟨_, rfl, by omega, (Chg.refl 0 0 _)⟩

theorem c_szSigned {w : World} {n1 : Bool} {v1 : Value} {lv1 uv1 : Nat} {z1 : List Int} {n : Int} (hv1 : Sl w lv1 uv1 v1 (z1)) (bz1 : z1.length ≤ 9223372036854775807) (hn : 0 ≤ n ∧ n ≤ 1048576) :
  Ret Tryd.prog 57 [.agg #[.bool n1, v1], .int .i64 n] w fun v w' => ∃ r, v = .int .i64 (r) ∧ (r < 0 ∨ (0 ≤ r ∧ r = n - (z1).length)) ∧ Chg 0 0 w w' := by
 have hv10 := hv1.fit
 refine sx_enter Tryd.func57 rfl Tryd.ntmps57 (nbl rfl) ?_
 refine sx_seq fun K1 k1 => sx_region ?_
 refine sx_box [.bool n1, v1] rfl rfl rfl (fun b2 w3 eb2 sb2 fb2 cb2 => ?_)
 have zw3 := cb2.size
 refine av rfl rfl (wl_nil (q_n (k1 _ _ ?_)))
 refine sx_seq fun K4 k4 => sx_region ?_
 refine sp rfl (px_field rfl xfld24x1) ?_
 refine sp rfl (px_load rfl (fb2.load1 rfl Tryd.isAgg22)) ?_
 refine mv rfl rfl ?_
 have f5 := hv10.ext cb2
 refine sx_call rfl rfl Tryd.call102 (c_szIntS f5 (by omega) (by omega)) (fun v6 w6 p6 => ?_)
 obtain ⟨r6, rfl, hr6, c6⟩ := p6
 have zw6 := c6.size
 refine av rfl rfl (wl_nil (q_n (k4 _ _ ?_)))
 refine sx_seq fun K7 k7 => ?_
 refine sx_seq fun K8 k8 => sx_region ?_
 refine mv rfl rfl (sp rfl (px_lt rfl rfl) ?_)
 refine wl_nil (q_n (k8 _ _ ?_))
 refine sx_condP rfl (fun h256 => ?_) (fun h256 => ?_)
 ·
  refine sx_seq fun K9 k9 => sx_region ?_
  refine av rfl rfl (wl_nil (q_n (k9 _ _ ?_)))
  refine sx_retc ?_
  refine q_r (sx_ret1 Tryd.results57 rfl ?_)
  exact ⟨_, rfl, by omega, (cb2.t c6)⟩
 refine sx_skip ?_
 refine q_n (k7 _ _ ?_)
 refine sx_seq fun K10 k10 => sx_region ?_
 refine mv rfl rfl (av rfl rfl (wl_nil (q_n (k10 _ _ ?_))))
 refine sx_retc ?_
 refine sx_ret1 Tryd.results57 rfl ?_
 exact ⟨_, rfl, by omega, (cb2.t c6)⟩

theorem c_szMoney {w : World} {c1 : ByteArray} {n1 : Bool} {v1 : Value} {lv1 uv1 : Nat} {z1 : List Int} {n : Int} (hv1 : Sl w lv1 uv1 v1 (z1)) (bz1 : z1.length ≤ 9223372036854775807) (bc1 : c1.size ≤ 9223372036854775807) (hn : 0 ≤ n ∧ n ≤ 1048576) :
  Ret Tryd.prog 15 [.agg #[.string c1, .bool n1, v1], .int .i64 n] w fun v w' => ∃ r, v = .int .i64 (r) ∧ (r < 0 ∨ (0 ≤ r ∧ r ≤ n - (z1).length)) ∧ Chg 0 0 w w' := by
 have hv10 := hv1.fit
 refine sx_enter Tryd.func15 rfl Tryd.ntmps15 (nbl rfl) ?_
 refine sx_seq fun K1 k1 => sx_region ?_
 refine sx_box [.string c1, .bool n1, v1] rfl rfl rfl (fun b2 w3 eb2 sb2 fb2 cb2 => ?_)
 have zw3 := cb2.size
 refine av rfl rfl (wl_nil (q_n (k1 _ _ ?_)))
 refine sx_seq fun K4 k4 => sx_region ?_
 refine mv rfl rfl (sp rfl (px_field rfl xfld26x0) ?_)
 refine sp rfl (px_load rfl (fb2.load1 rfl Tryd.isAgg9)) ?_
 refine sp rfl (px_lenS rfl Tryd.underlying9) ?_
 refine sp rfl (px_sub rfl rfl (by omega)) ?_
 refine av rfl rfl (wl_nil (q_n (k4 _ _ ?_)))
 refine sx_seq fun K5 k5 => ?_
 refine sx_seq fun K6 k6 => sx_region ?_
 refine mv rfl rfl (sp rfl (px_lt rfl rfl) ?_)
 refine wl_nil (q_n (k6 _ _ ?_))
 refine sx_condP rfl (fun h436 => ?_) (fun h436 => ?_)
 ·
  refine sx_seq fun K7 k7 => sx_region ?_
  refine av rfl rfl (wl_nil (q_n (k7 _ _ ?_)))
  refine sx_retc ?_
  refine q_r (sx_ret1 Tryd.results15 rfl ?_)
  exact ⟨_, rfl, by omega, cb2⟩
 refine sx_skip ?_
 refine q_n (k5 _ _ ?_)
 refine sx_seq fun K8 k8 => sx_region ?_
 refine sp rfl (px_field rfl xfld26x1) ?_
 refine sp rfl (px_load rfl (fb2.loadA (vs := [.bool n1, v1]) (look_lit rfl) Tryd.isAgg24 Tryd.sizeOf24)) ?_
 refine mv rfl rfl ?_
 have f9 := hv10.ext cb2
 refine sx_call rfl rfl Tryd.call57 (c_szSigned f9 (by omega) (by omega)) (fun v10 w10 p10 => ?_)
 obtain ⟨r10, rfl, hr10, c10⟩ := p10
 have zw10 := c10.size
 refine av rfl rfl (wl_nil (q_n (k8 _ _ ?_)))
 refine sx_sub (Sub.c 1 rfl (.c 4 rfl .nil)) ?_
 refine sx_seq fun K11 k11 => ?_
 refine sx_seq fun K12 k12 => sx_region ?_
 refine mv rfl rfl (sp rfl (px_lt rfl rfl) ?_)
 refine wl_nil (q_n (k12 _ _ ?_))
 refine sx_condP rfl (fun h440 => ?_) (fun h440 => ?_)
 ·
  refine sx_seq fun K13 k13 => sx_region ?_
  refine av rfl rfl (wl_nil (q_n (k13 _ _ ?_)))
  refine sx_retc ?_
  refine q_r (sx_ret1 Tryd.results15 rfl ?_)
  exact ⟨_, rfl, by omega, (cb2.t c10)⟩
 refine sx_skip ?_
 refine q_n (k11 _ _ ?_)
 refine sx_seq fun K14 k14 => sx_region ?_
 refine mv rfl rfl (av rfl rfl (wl_nil (q_n (k14 _ _ ?_))))
 refine sx_retc ?_
 refine sx_ret1 Tryd.results15 rfl ?_
 exact ⟨_, rfl, by omega, (cb2.t c10)⟩

theorem c_szMoneyS {w : World} {vl : Value} {lvl uvl : Nat} {ts : List Mt} {vvl : List Value} {n : Int} (hvl : MtS w lvl uvl vl ts vvl) (bts : ts.length ≤ 9223372036854775807) (hb : ∀ i, i < ts.length → MB (ts.getD i mt0)) (hn : 0 ≤ n ∧ n ≤ 1048576) :
  Ret Tryd.prog 51 [vl, .int .i64 n] w fun v w' => ∃ r, v = .int .i64 (r) ∧ (r < 0 ∨ (0 ≤ r ∧ r ≤ n - (ts).length)) ∧ (0 ≤ r → ∀ i, i < (ts).length → ((ts).getD i mt0).2.2.length ≤ 1048576) ∧ Chg 0 0 w w' := by
 have hvl0 := hvl.fit
 refine sx_enter Tryd.func51 rfl Tryd.ntmps51 (nbl rfl) ?_
 refine sx_seq fun K1 k1 => sx_region ?_
 refine av rfl rfl (wl_nil (q_n (k1 _ _ ?_)))
 refine sx_seq fun K2 k2 => sx_region ?_
 refine mv rfl rfl (mv rfl rfl (sp rfl (px_len rfl Tryd.underlying78 hvl0.sv) ?_))
 refine sp rfl (px_sub rfl rfl (by omega)) ?_
 refine av rfl rfl (wl_nil (q_n (k2 _ _ ?_)))
 refine sx_seq fun K3 k3 => ?_
 refine sx_seq fun K4 k4 => sx_region ?_
 refine mv rfl rfl (sp rfl (px_lt rfl rfl) ?_)
 refine wl_nil (q_n (k4 _ _ ?_))
 refine sx_condP rfl (fun h479 => ?_) (fun h479 => ?_)
 ·
  refine sx_seq fun K5 k5 => sx_region ?_
  refine av rfl rfl (wl_nil (q_n (k5 _ _ ?_)))
  refine sx_retc ?_
  refine q_r (sx_ret1 Tryd.results51 rfl ?_)
  exact ⟨_, rfl, by omega, fun h => by omega, (Chg.refl 0 0 _)⟩
 refine sx_skip ?_
 refine q_n (k3 _ _ ?_)
 refine sx_seq fun K6 k6 => ?_
 refine sx_seq fun K7 k7 => sx_region ?_
 refine av rfl rfl (wl_nil (q_n (k7 _ _ ?_)))
 refine sx_block ?_
 refine sx_loop (fun mm aa w' => ∃ (k : Nat) (c : Int), Agr 27 [(0, vl), (1, .int .i64 c), (5, .int .i64 ↑k)] aa ∧ Chg 0 0 w w' ∧ (mm = ts.length - k) ∧ (k ≤ ts.length) ∧ (0 ≤ c ∧ c ≤ n - ↑ts.length) ∧ (∀ i, i < k → (ts.getD i mt0).2.2.length ≤ 1048576)) (_) (fun a ha => ⟨0, (n - (↑((ts).length))), ha.sub (Sub.c 0 rfl (.c 1 (look_int (t := 1) rfl (by first | omega | simp)) (.c 5 (look_int (t := 5) rfl (by first | omega | simp)) .nil))), Chg.refl _ _ _, rfl, by omega, by omega, fun i hi => by omega⟩) ?_
 rintro mm aa wl8 ⟨k, c, hAwl8, cwl8, hm, hk, hc, hzz⟩
 refine (show cw Tryd.prog 27 _ _ _ wl8 from ?_) aa hAwl8
 clear hAwl8
 have zwl8 := cwl8.size
 refine sx_seq fun K9 k9 => ?_
 refine sx_seq fun K10 k10 => sx_region ?_
 refine mv rfl rfl (mv rfl rfl ?_)
 have f11 := hvl0.ext cwl8
 refine sp rfl (px_len rfl Tryd.underlying78 f11.sv) ?_
 refine sp rfl (px_lt rfl rfl) ?_
 refine wl_nil (q_n (k10 _ _ ?_))
 refine sx_condP rfl (fun h482 => ?_) (fun h482 => ?_)
 ·
  have hbk := hb k (by omega)
  refine sx_skip ?_
  refine q_n (k9 _ _ ?_)
  refine sx_seq fun K12 k12 => ?_
  refine sx_block ?_
  refine sx_seq fun K13 k13 => sx_region ?_
  refine mv rfl rfl (mv rfl rfl (sp rfl (px_indexK (j := k) rfl rfl (by omega) Tryd.underlying78 Tryd.sizeOf26 f11.sv (by omega)) ?_))
  refine sp rfl (px_load rfl (f11.sv.loadA (mt_look f11.len (by omega)) Tryd.isAgg26 Tryd.sizeOf26)) ?_
  refine mv rfl rfl (sx_call rfl rfl Tryd.call15 (c_szMoney (f11.nest k (by omega)) (hbk.2) (hbk.1) (by omega)) (fun v14 w14 p14 => ?_))
  obtain ⟨r14, rfl, hr14, c14⟩ := p14
  have zw14 := c14.size
  refine av rfl rfl (wl_nil (q_n (k13 _ _ ?_)))
  refine sx_seq fun K15 k15 => sx_region ?_
  refine mv rfl rfl (sp rfl (px_lt rfl rfl) ?_)
  refine wl_nil (q_n (k15 _ _ ?_))
  refine sx_sub (Sub.c 0 rfl (.c 1 rfl (.c 5 rfl (.c 25 rfl .nil)))) ?_
  refine sx_condP rfl (fun h484 => ?_) (fun h484 => ?_)
  ·
   refine sx_seq fun K16 k16 => sx_region ?_
   refine av rfl rfl (wl_nil (q_n (k16 _ _ ?_)))
   refine sx_retc ?_
   refine q_br (q_r (q_r (q_br (q_r (sx_ret1 Tryd.results51 rfl ?_)))))
   exact ⟨_, rfl, by omega, fun h => by omega, (cwl8.t c14)⟩
  refine sx_skip ?_
  refine q_bn (q_n (k12 _ _ ?_))
  refine sx_region ?_
  refine mv rfl rfl (sp rfl (px_add rfl rfl (by omega)) ?_)
  refine av rfl rfl (wl_nil ?_)
  exact fun a ha => ⟨_, by omega, (k + 1), r14, ha.sub (Sub.c 0 rfl (.c 1 (look_int (t := 1) rfl (by first | omega | simp)) (.c 5 (look_int (t := 5) rfl (by first | omega | simp)) .nil))), (cwl8.t c14), rfl, by omega, by omega, mt_sz_next hzz (by omega)⟩
 refine sx_exit ?_
 refine q_e (q_e (q_bx (q_n (k6 _ _ ?_))))
 refine sx_seq fun K17 k17 => sx_region ?_
 refine mv rfl rfl (av rfl rfl (wl_nil (q_n (k17 _ _ ?_))))
 refine sx_retc ?_
 refine sx_ret1 Tryd.results51 rfl ?_
 have ek : k = ts.length := by omega
 subst ek
 exact ⟨_, rfl, by omega, fun _ => hzz, cwl8⟩

theorem c_toIntS {w : World} {va : Value} {lva uva : Nat} {zs : List Int} (hva : Sl w lva uva va (zs)) (h63 : zs.length ≤ 1048576) :
  Ret Tryd.prog 105 [va] w fun v w' => ∃ s, v = s ∧ OwnI w' w.heap.size w'.heap.size s intT (zs) ∧ Chg 0 0 w w' := by
 have hva0 := hva.fit
 refine sx_enter Tryd.func105 rfl Tryd.ntmps105 (nbl rfl) ?_
 refine sx_seq fun K1 k1 => sx_region ?_
 refine av rfl rfl (wl_nil (q_n (k1 _ _ ?_)))
 refine sx_seq fun K2 k2 => sx_region ?_
 refine mv rfl rfl (sp rfl (px_len rfl Tryd.underlying22 hva0) ?_)
 refine sx_make (c := (zs).length) rfl xelt22 (rfl) (rfl) (by omega) (by unfold maxLen; omega) (fun s3 ws3 fs3 cs3 ls3 => ?_)
 have ns3 := fs3.made
 have zws3 := cs3.size
 refine av rfl rfl (wl_nil (q_n (k2 _ _ ?_)))
 refine sx_seq fun K4 k4 => ?_
 refine sx_seq fun K5 k5 => sx_region ?_
 refine av rfl rfl (wl_nil (q_n (k5 _ _ ?_)))
 refine sx_block ?_
 refine sx_loop (fun mm aa w' => ∃ (k : Nat) (os : List Int), Agr 22 [(0, va), (3, s3), (4, .int .i64 ↑k)] aa ∧ Chg w.heap.size ws3.heap.size ws3 w' ∧ Own w' w.heap.size ws3.heap.size s3 3 os.length 1 (os.map (Value.int .i64)) ∧ (mm = zs.length - k) ∧ (k ≤ zs.length) ∧ (os.length = zs.length) ∧ (os.take k = zs.take k)) (_) (fun a ha => ⟨0, List.replicate zs.length 0, ha.sub (Sub.c 0 rfl (.c 3 rfl (.c 4 (look_int (t := 4) rfl (by first | omega | simp)) .nil))), Chg.refl _ _ _, (ns3.mono (by omega) (by omega)), rfl, by omega, by simp, by simp⟩) ?_
 rintro mm aa wl6 ⟨k, os, hAwl6, cwl6, hs_s3, hm, hk, ho, he⟩
 refine (show cw Tryd.prog 22 _ _ _ wl6 from ?_) aa hAwl6
 clear hAwl6
 have zwl6 := cwl6.size
 refine sx_seq fun K7 k7 => ?_
 refine sx_seq fun K8 k8 => sx_region ?_
 refine mv rfl rfl (mv rfl rfl ?_)
 have f9 := hva0.ext cs3
 have f10 := f9.chg cwl6 (by omega)
 refine sp rfl (px_len rfl Tryd.underlying22 f10) ?_
 refine sp rfl (px_lt rfl rfl) ?_
 refine wl_nil (q_n (k8 _ _ ?_))
 refine sx_condP rfl (fun h203 => ?_) (fun h203 => ?_)
 ·
  refine sx_skip ?_
  refine q_n (k7 _ _ ?_)
  refine sx_seq fun K11 k11 => ?_
  refine sx_block ?_
  refine sx_region ?_
  refine mv rfl rfl (mv rfl rfl (mv rfl rfl (mv rfl rfl (sp rfl (px_index1 (j := k) rfl rfl (by omega) Tryd.underlying22 Tryd.sizeOf3 f10 (by omega)) ?_))))
  refine sp rfl (px_load rfl (f10.load1 (at_int (by omega)) Tryd.isAgg3)) ?_
  refine sp rfl (px_index1 (j := k) rfl rfl (by omega) Tryd.underlying22 Tryd.sizeOf3 hs_s3.sv (by omega)) ?_
  refine sx_storeO rfl rfl hs_s3 (by simp only [List.length_map]; omega) Tryd.sizeOf3 rfl (fun w12 sw12 fw12 cw12 => ?_)
  have zw12 := cw12.size
  have nw12 := fw12.set
  refine wl_nil ?_
  refine q_bn (q_n (k11 _ _ ?_))
  refine sx_region ?_
  refine mv rfl rfl (sp rfl (px_add rfl rfl (by omega)) ?_)
  refine av rfl rfl (wl_nil ?_)
  have q13 := Chg.step (l := w.heap.size) (h := ws3.heap.size) cwl6 cw12 (by omega)
  exact fun a ha => ⟨_, by omega, (k + 1), (os.set k (zs.getD k 0)), ha.sub (Sub.c 0 rfl (.c 3 rfl (.c 4 (look_int (t := 4) rfl (by first | omega | simp)) .nil))), q13, (nw12.mono (by omega) (by omega)), rfl, by omega, by simp [ho], take_set_succ he (by omega) (by omega)⟩
 refine sx_exit ?_
 refine q_e (q_e (q_bx (q_n (k4 _ _ ?_))))
 refine sx_seq fun K14 k14 => sx_region ?_
 refine mv rfl rfl (av rfl rfl (wl_nil (q_n (k14 _ _ ?_))))
 refine sx_retc ?_
 refine sx_ret1 Tryd.results105 rfl ?_
 have e1 : k = zs.length := by omega
 rw [e1, List.take_length, List.take_of_length_le (by omega)] at he
 subst he
 have q15 := Chg.step (l := 0) (h := 0) (Chg.zero (l := 0) (h := 0) cs3) cwl6 (by omega)
 exact ⟨_, rfl, Own.mono hs_s3 (by omega) (by omega), q15⟩

theorem c_toSigned {w : World} {n1 : Bool} {v1 : Value} {lv1 uv1 : Nat} {z1 : List Int} (hv1 : Sl w lv1 uv1 v1 (z1)) (bz1 : z1.length ≤ 1048576) :
  Ret Tryd.prog 60 [.agg #[.bool n1, v1]] w fun v w' => ∃ s1, v = .agg #[.bool (n1), s1] ∧ OwnI w' w.heap.size w'.heap.size s1 intT (z1) ∧ Chg 0 0 w w' := by
 have hv10 := hv1.fit
 refine sx_enter Tryd.func60 rfl Tryd.ntmps60 (nbl rfl) ?_
 refine sx_seq fun K1 k1 => sx_region ?_
 refine sx_box [.bool n1, v1] rfl rfl rfl (fun b2 w3 eb2 sb2 fb2 cb2 => ?_)
 have zw3 := cb2.size
 refine sx_alloc [.bool false, (.slice none 0 0)] rfl Tryd.zeroValue29 rfl (fun b4 w5 eb4 sb4 fb4 cb4 => ?_)
 have zw5 := cb4.size
 refine wl_nil (q_n (k1 _ _ ?_))
 refine sx_seq fun K6 k6 => sx_region ?_
 refine sx_alloc [.bool false, (.slice none 0 0)] rfl Tryd.zeroValue29 rfl (fun b7 w8 eb7 sb7 fb7 cb7 => ?_)
 have zw8 := cb7.size
 refine wl_nil (q_n (k6 _ _ ?_))
 refine sx_seq fun K9 k9 => sx_region ?_
 refine sp rfl (px_field rfl xfld24x0) ?_
 have f10 := fb2.ext cb4
 have f11 := f10.ext cb7
 refine sp rfl (px_load rfl (f11.load1 rfl Tryd.isAgg4)) ?_
 refine sp rfl (px_field rfl xfld29x0) ?_
 refine sx_store (vs := [.bool n1]) rfl rfl fb7 rfl Tryd.sizeOf4 (nbl rfl) (o1 rfl) (fun w12 sw12 fw12 cw12 => ?_)
 have zw12 := cw12.size
 have gw12 : Blk w12 b7 [.bool n1, (.slice none 0 0)] 29 := fw12
 refine wl_nil (q_n (k9 _ _ ?_))
 refine sx_seq fun K13 k13 => sx_region ?_
 refine sp rfl (px_field rfl xfld24x1) ?_
 have f14 := f11.chg cw12 (by omega)
 refine sp rfl (px_load rfl (f14.load1 rfl Tryd.isAgg22)) ?_
 have f15 := hv10.ext cb2
 have f16 := f15.ext cb4
 have f17 := f16.ext cb7
 have f18 := f17.chg cw12 (by omega)
 refine sx_call rfl rfl Tryd.call105 (c_toIntS f18 (by omega)) (fun v19 w19 p19 => ?_)
 obtain ⟨s19, rfl, os_19, c19⟩ := p19
 have zw19 := c19.size
 refine sp rfl (px_field rfl xfld29x1) ?_
 have f21 := gw12.ext c19
 refine sx_store (vs := [v19]) rfl rfl f21 (cells_one os_19.one) Tryd.sizeOf22 (nbl rfl) (one_cons os_19.one one_nil) (fun w20 sw20 fw20 cw20 => ?_)
 have zw20 := cw20.size
 have gw20 : Blk w20 b7 [.bool n1, v19] 29 := fw20
 refine wl_nil (q_n (k13 _ _ ?_))
 refine sx_seq fun K22 k22 => sx_region ?_
 refine sp rfl (px_load rfl (gw20.loadA (vs := [.bool n1, v19]) (look_lit rfl) Tryd.isAgg29 Tryd.sizeOf29)) ?_
 have f24 := fb4.ext cb7
 have f25 := f24.chg cw12 (by omega)
 have f27 := (f25.ext c19).chg cw20 (by omega)
 have f28 := os_19.chg cw20 (by omega)
 refine sx_store (vs := [.bool n1, v19]) rfl rfl f27 rfl Tryd.sizeOf29 (nbl rfl) (one_cons rfl (one_cons f28.one one_nil)) (fun w23 sw23 fw23 cw23 => ?_)
 have zw23 := cw23.size
 have gw23 : Blk w23 b4 [.bool n1, v19] 29 := fw23
 refine wl_nil (q_n (k22 _ _ ?_))
 refine sx_retc ?_
 refine sx_ret1 Tryd.results60 ⟨_, rfl, gw23.loadA (vs := [.bool n1, v19]) (look_lit rfl) Tryd.isAgg29 Tryd.sizeOf29⟩ ?_
 have q29 := Chg.step (l := 0) (h := 0) (Chg.zero (l := 0) (h := 0) ((cb2.t cb4).t cb7)) cw12 (by omega)
 have q30 := Chg.step (l := 0) (h := 0) q29 c19 (by omega)
 have q31 := Chg.step (l := 0) (h := 0) q30 cw20 (by omega)
 have q32 := Chg.step (l := 0) (h := 0) q31 cw23 (by omega)
 have f33 := f28.chg cw23 (by omega)
 exact ⟨_, rfl, Own.mono f33 (by omega) (by omega), q32⟩

theorem c_toMoney {w : World} {c1 : ByteArray} {n1 : Bool} {v1 : Value} {lv1 uv1 : Nat} {z1 : List Int} (hv1 : Sl w lv1 uv1 v1 (z1)) (bz1 : z1.length ≤ 1048576) :
  Ret Tryd.prog 17 [.agg #[.string c1, .bool n1, v1]] w fun v w' => ∃ s2, v = .agg #[.string (c1), .bool (n1), s2] ∧ OwnI w' w.heap.size w'.heap.size s2 intT (z1) ∧ Chg 0 0 w w' := by
 have hv10 := hv1.fit
 refine sx_enter Tryd.func17 rfl Tryd.ntmps17 (nbl rfl) ?_
 refine sx_seq fun K1 k1 => sx_region ?_
 refine sx_box [.string c1, .bool n1, v1] rfl rfl rfl (fun b2 w3 eb2 sb2 fb2 cb2 => ?_)
 have zw3 := cb2.size
 refine sx_alloc [.string (⟨#[]⟩), .bool false, (.slice none 0 0)] rfl Tryd.zeroValue31 rfl (fun b4 w5 eb4 sb4 fb4 cb4 => ?_)
 have zw5 := cb4.size
 refine wl_nil (q_n (k1 _ _ ?_))
 refine sx_seq fun K6 k6 => sx_region ?_
 refine sx_alloc [.string (⟨#[]⟩), .bool false, (.slice none 0 0)] rfl Tryd.zeroValue31 rfl (fun b7 w8 eb7 sb7 fb7 cb7 => ?_)
 have zw8 := cb7.size
 refine wl_nil (q_n (k6 _ _ ?_))
 refine sx_seq fun K9 k9 => sx_region ?_
 refine sp rfl (px_field rfl xfld26x0) ?_
 have f10 := fb2.ext cb4
 have f11 := f10.ext cb7
 refine sp rfl (px_load rfl (f11.load1 rfl Tryd.isAgg9)) ?_
 refine sp rfl (px_field rfl xfld31x0) ?_
 refine sx_store (vs := [.string c1]) rfl rfl fb7 rfl Tryd.sizeOf9 (nbl rfl) (o1 rfl) (fun w12 sw12 fw12 cw12 => ?_)
 have zw12 := cw12.size
 have gw12 : Blk w12 b7 [.string c1, .bool false, (.slice none 0 0)] 31 := fw12
 refine wl_nil (q_n (k9 _ _ ?_))
 refine sx_seq fun K13 k13 => sx_region ?_
 refine sp rfl (px_field rfl xfld26x1) ?_
 have f14 := f11.chg cw12 (by omega)
 refine sp rfl (px_load rfl (f14.loadA (vs := [.bool n1, v1]) (look_lit rfl) Tryd.isAgg24 Tryd.sizeOf24)) ?_
 have f15 := hv10.ext cb2
 have f16 := f15.ext cb4
 have f17 := f16.ext cb7
 have f18 := f17.chg cw12 (by omega)
 refine sx_call rfl rfl Tryd.call60 (c_toSigned f18 (by omega)) (fun v19 w19 p19 => ?_)
 obtain ⟨s119, rfl, os1_19, c19⟩ := p19
 have zw19 := c19.size
 refine sp rfl (px_field rfl xfld31x1) ?_
 have f21 := gw12.ext c19
 refine sx_store (vs := [.bool n1, s119]) rfl rfl f21 rfl Tryd.sizeOf29 (nbl rfl) (one_cons rfl (one_cons os1_19.one one_nil)) (fun w20 sw20 fw20 cw20 => ?_)
 have zw20 := cw20.size
 have gw20 : Blk w20 b7 [.string c1, .bool n1, s119] 31 := fw20
 refine wl_nil (q_n (k13 _ _ ?_))
 refine sx_seq fun K22 k22 => sx_region ?_
 refine sp rfl (px_load rfl (gw20.loadA (vs := [.string c1, .bool n1, s119]) (look_lit rfl) Tryd.isAgg31 Tryd.sizeOf31)) ?_
 have f24 := fb4.ext cb7
 have f25 := f24.chg cw12 (by omega)
 have f27 := (f25.ext c19).chg cw20 (by omega)
 have f28 := os1_19.chg cw20 (by omega)
 refine sx_store (vs := [.string c1, .bool n1, s119]) rfl rfl f27 rfl Tryd.sizeOf31 (nbl rfl) (one_cons rfl (one_cons rfl (one_cons f28.one one_nil))) (fun w23 sw23 fw23 cw23 => ?_)
 have zw23 := cw23.size
 have gw23 : Blk w23 b4 [.string c1, .bool n1, s119] 31 := fw23
 refine wl_nil (q_n (k22 _ _ ?_))
 refine sx_retc ?_
 refine sx_ret1 Tryd.results17 ⟨_, rfl, gw23.loadA (vs := [.string c1, .bool n1, s119]) (look_lit rfl) Tryd.isAgg31 Tryd.sizeOf31⟩ ?_
 have q29 := Chg.step (l := 0) (h := 0) (Chg.zero (l := 0) (h := 0) ((cb2.t cb4).t cb7)) cw12 (by omega)
 have q30 := Chg.step (l := 0) (h := 0) q29 c19 (by omega)
 have q31 := Chg.step (l := 0) (h := 0) q30 cw20 (by omega)
 have q32 := Chg.step (l := 0) (h := 0) q31 cw23 (by omega)
 have f33 := f28.chg cw23 (by omega)
 exact ⟨_, rfl, Own.mono f33 (by omega) (by omega), q32⟩

theorem c_toMoneyS {w : World} {vl : Value} {lvl uvl : Nat} {ts : List Mt} {vvl : List Value} (hvl : MtS w lvl uvl vl ts vvl) (h63 : ts.length ≤ 1048576) (hzz : ∀ i, i < ts.length → (ts.getD i mt0).2.2.length ≤ 1048576) :
  Ret Tryd.prog 53 [vl] w fun v w' => ∃ s us, v = s ∧ MtO w' (w.heap.size) (w'.heap.size) s 31 intT (ts) us ∧ Chg 0 0 w w' := by
 have hvl0 := hvl.fit
 refine sx_enter Tryd.func53 rfl Tryd.ntmps53 (nbl rfl) ?_
 refine sx_seq fun K1 k1 => sx_region ?_
 refine av rfl rfl (wl_nil (q_n (k1 _ _ ?_)))
 refine sx_seq fun K2 k2 => sx_region ?_
 refine mv rfl rfl (sp rfl (px_len rfl Tryd.underlying78 hvl0.sv) ?_)
 refine sx_make (c := (ts).length) rfl xelt81 (rfl) (rfl) (by omega) (by unfold maxLen; omega) (fun s3 ws3 fs3 cs3 ls3 => ?_)
 have zws3 := cs3.size
 refine av rfl rfl (wl_nil (q_n (k2 _ _ ?_)))
 refine sx_seq fun K4 k4 => ?_
 refine sx_seq fun K5 k5 => sx_region ?_
 refine av rfl rfl (wl_nil (q_n (k5 _ _ ?_)))
 refine sx_block ?_
 obtain ⟨xs0, hxs0⟩ : ∃ xs, Own ws3 w.heap.size ws3.heap.size s3 31 ts.length 3 xs := ⟨_, fs3⟩
 refine sx_loop (fun mm aa w' => ∃ (k : Nat) (us : List Value) (xs : List Value) (r : Nat → Nat), Agr 23 [(0, vl), (3, s3), (4, .int .i64 ↑k)] aa ∧ Chg w.heap.size ws3.heap.size ws3 w' ∧ Own w' w.heap.size ws3.heap.size s3 31 ts.length 3 (xs) ∧ (mm = ts.length - k) ∧ (k ≤ ts.length) ∧ (us.length = k) ∧ (xs.take (k * 3) = mtCells (ts.take k) us) ∧ (ws3.heap.size ≤ r 0) ∧ (∀ i, i < k → r i ≤ r (i + 1)) ∧ (r k ≤ w'.heap.size) ∧ (∀ i, i < k → OwnI w' (r i) (r (i + 1)) (us.getD i vz) intT (ts.getD i mt0).2.2)) (_) (fun a ha => ⟨0, [], xs0, (fun _ => ws3.heap.size), ha.sub (Sub.c 0 rfl (.c 3 rfl (.c 4 (look_int (t := 4) rfl (by first | omega | simp)) .nil))), Chg.refl _ _ _, hxs0, rfl, by omega, rfl, by simp [mtCells], (show ws3.heap.size ≤ ws3.heap.size from by omega), fun i hi => by omega, Nat.le_refl _, fun i hi => by omega⟩) ?_
 rintro mm aa wl6 ⟨k, us, xs, r, hAwl6, cwl6, hs_s3, hm, hk, hul, hxt, hr0, hrm, hrk, hne⟩
 refine (show cw Tryd.prog 23 _ _ _ wl6 from ?_) aa hAwl6
 clear hAwl6
 have zwl6 := cwl6.size
 refine sx_seq fun K7 k7 => ?_
 refine sx_seq fun K8 k8 => sx_region ?_
 refine mv rfl rfl (mv rfl rfl ?_)
 have f9 := hvl0.ext cs3
 have f10 := f9.chg cwl6 (by omega)
 refine sp rfl (px_len rfl Tryd.underlying78 f10.sv) ?_
 refine sp rfl (px_lt rfl rfl) ?_
 refine wl_nil (q_n (k8 _ _ ?_))
 refine sx_condP rfl (fun h471 => ?_) (fun h471 => ?_)
 ·
  refine sx_skip ?_
  refine q_n (k7 _ _ ?_)
  refine sx_seq fun K11 k11 => ?_
  refine sx_block ?_
  have hxl := (hs_s3).1
  refine sx_region ?_
  refine mv rfl rfl (mv rfl rfl (mv rfl rfl (mv rfl rfl (sp rfl (px_indexK (j := k) rfl rfl (by omega) Tryd.underlying78 Tryd.sizeOf26 f10.sv (by omega)) ?_))))
  refine sp rfl (px_load rfl (f10.sv.loadA (mt_look f10.len (by omega)) Tryd.isAgg26 Tryd.sizeOf26)) ?_
  refine sx_call rfl rfl Tryd.call17 (c_toMoney (f10.nest k (by omega)) (hzz k (by omega))) (fun v12 w12 p12 => ?_)
  obtain ⟨s212, rfl, os2_12, c12⟩ := p12
  have zw12 := c12.size
  have f13 := hs_s3.ext c12
  refine sp rfl (px_indexK (j := k) rfl rfl (by omega) Tryd.underlying81 Tryd.sizeOf31 f13.sv (by omega)) ?_
  refine sx_storeOA (vs := [.string ((ts.getD k mt0).1), .bool ((ts.getD k mt0).2.1), s212]) rfl rfl f13 rfl (by simp) (by simp only [List.length_cons, List.length_nil]; omega) Tryd.sizeOf31 (one_cons rfl (one_cons rfl (one_cons os2_12.one one_nil))) (fun w14 sw14 fw14 cw14 => ?_)
  have zw14 := cw14.size
  refine wl_nil ?_
  refine q_bn (q_n (k11 _ _ ?_))
  refine sx_sub (Sub.c 0 rfl (.c 3 rfl (.c 4 rfl .nil))) ?_
  refine sx_region ?_
  refine mv rfl rfl (sp rfl (px_add rfl rfl (by omega)) ?_)
  refine av rfl rfl (wl_nil ?_)
  have q15 := Chg.step (l := w.heap.size) (h := ws3.heap.size) (Chg.zero (l := w.heap.size) (h := ws3.heap.size) c12) cw14 (by omega)
  have f16 := os2_12.chg cw14 (by omega)
  have q17 := Chg.step (l := w.heap.size) (h := ws3.heap.size) cwl6 c12 (by omega)
  have q18 := Chg.step (l := w.heap.size) (h := ws3.heap.size) q17 cw14 (by omega)
  exact fun a ha => ⟨_, by omega, (k + 1), (us ++ [s212]), ((xs).take (k * 3) ++ [.string ((ts.getD k mt0).1), .bool ((ts.getD k mt0).2.1), s212] ++ (xs).drop (k * 3 + 3)), (rset r k w14.heap.size), ha.sub (Sub.c 0 rfl (.c 3 rfl (.c 4 (look_int (t := 4) rfl (by first | omega | simp)) .nil))), q18, (fw14.mono (by omega) (by omega)), rfl, by omega, by rw [List.length_append, hul]; rfl, mt_put (by omega) hul (by omega) hxt rfl, by rw [rset_le (Nat.zero_le _)]; exact hr0, rset_mono hrm (by omega), by rw [rset_at]; exact Nat.le_refl _, mto_next hul hrm hne q15 hr0 (Own.mono f16 (by omega) (by omega))⟩
 refine sx_exit ?_
 refine q_e (q_e (q_bx (q_n (k4 _ _ ?_))))
 refine sx_seq fun K19 k19 => sx_region ?_
 refine mv rfl rfl (av rfl rfl (wl_nil (q_n (k19 _ _ ?_))))
 refine sx_retc ?_
 refine sx_ret1 Tryd.results53 rfl ?_
 have ek : k = ts.length := by omega
 subst ek
 have hO := hs_s3
 have q20 := Chg.step (l := 0) (h := 0) (Chg.zero (l := 0) (h := 0) cs3) cwl6 (by omega)
 exact ⟨_, us, rfl, mto_copied hO hul hxt hr0 hrm hrk hne (by omega), q20⟩

theorem c_l08Table {w : World} :
  Ret Tryd.prog 123 [] w fun v w' => ∃ sl, v = sl ∧ Own w' w.heap.size w'.heap.size sl 119 20 4 (crCells tabS) ∧ Chg 0 0 w w' := by
 refine sx_enter Tryd.func123 rfl Tryd.ntmps123 (nbl rfl) ?_
 refine sx_seq fun K1 k1 => sx_region ?_
 refine av rfl rfl (wl_nil (q_n (k1 _ _ ?_)))
 refine sx_seq fun K2 k2 => sx_region ?_
 refine sp rfl (px_build rfl (xbld119x0x1x2x3 rfl rfl rfl rfl _)) ?_
 refine sp rfl (px_build rfl (xbld119x0x1x2x3 rfl rfl rfl rfl _)) ?_
 refine sp rfl (px_build rfl (xbld119x0x1x2x3 rfl rfl rfl rfl _)) ?_
 refine sp rfl (px_build rfl (xbld119x0x1x2x3 rfl rfl rfl rfl _)) ?_
 refine sp rfl (px_build rfl (xbld119x0x1x2x3 rfl rfl rfl rfl _)) ?_
 refine sp rfl (px_build rfl (xbld119x0x1x2x3 rfl rfl rfl rfl _)) ?_
 refine sp rfl (px_build rfl (xbld119x0x1x2x3 rfl rfl rfl rfl _)) ?_
 refine sp rfl (px_build rfl (xbld119x0x1x2x3 rfl rfl rfl rfl _)) ?_
 refine sp rfl (px_build rfl (xbld119x0x1x2x3 rfl rfl rfl rfl _)) ?_
 refine sp rfl (px_build rfl (xbld119x0x1x2x3 rfl rfl rfl rfl _)) ?_
 refine sp rfl (px_build rfl (xbld119x0x1x2x3 rfl rfl rfl rfl _)) ?_
 refine sp rfl (px_build rfl (xbld119x0x1x2x3 rfl rfl rfl rfl _)) ?_
 refine sp rfl (px_build rfl (xbld119x0x1x2x3 rfl rfl rfl rfl _)) ?_
 refine sp rfl (px_build rfl (xbld119x0x1x2x3 rfl rfl rfl rfl _)) ?_
 refine sp rfl (px_build rfl (xbld119x0x1x2x3 rfl rfl rfl rfl _)) ?_
 refine sp rfl (px_build rfl (xbld119x0x1x2x3 rfl rfl rfl rfl _)) ?_
 refine sp rfl (px_build rfl (xbld119x0x1x2x3 rfl rfl rfl rfl _)) ?_
 refine sp rfl (px_build rfl (xbld119x0x1x2x3 rfl rfl rfl rfl _)) ?_
 refine sp rfl (px_build rfl (xbld119x0x1x2x3 rfl rfl rfl rfl _)) ?_
 refine sp rfl (px_build rfl (xbld119x0x1x2x3 rfl rfl rfl rfl _)) ?_
 refine sx_litG (k := 4) (e := 119) (vs := crCells tabS) rfl rfl ⟨by decide, by decide⟩ (fun w => by kernel_rfl) (fun s3 ws3 ss3 fs3 cs3 => ?_)
 have zws3 := cs3.size
 refine av rfl rfl (wl_nil (q_n (k2 _ _ ?_)))
 refine sx_sub (Sub.c 0 rfl .nil) ?_
 refine sx_retc ?_
 refine sx_ret1 Tryd.results123 rfl ?_
 exact ⟨_, rfl, fs3, cs3⟩

theorem c_l08Find {w : World} {s : ByteArray} :
  Ret Tryd.prog 103 [.string s] w fun v w' => v = .agg #[.string ((curOf s).code), .string ((curOf s).number), .int .i64 ((curOf s).places), .int .i64 ((curOf s).cash)] ∧ Chg 0 0 w w' := by
 refine sx_enter Tryd.func103 rfl Tryd.ntmps103 (nbl rfl) ?_
 refine sx_seq fun K1 k1 => sx_region ?_
 refine sx_alloc [.string (⟨#[]⟩), .string (⟨#[]⟩), .int .i64 0, .int .i64 0] rfl Tryd.zeroValue119 rfl (fun b2 w3 eb2 sb2 fb2 cb2 => ?_)
 have zw3 := cb2.size
 refine wl_nil (q_n (k1 _ _ ?_))
 refine sx_seq fun K4 k4 => ?_
 refine sx_seq fun K5 k5 => sx_region ?_
 refine sx_call rfl rfl Tryd.call123 (c_l08Table) (fun v6 w6 p6 => ?_)
 obtain ⟨sl6, rfl, osl_6, c6⟩ := p6
 have zw6 := c6.size
 refine sp rfl (px_len rfl Tryd.underlying134 osl_6.sv) ?_
 refine mv rfl rfl (wl_nil (q_n (k5 _ _ ?_)))
 refine sx_block ?_
 refine sx_loop (fun mm aa w' => ∃ (k : Nat), Agr 18 [(0, .string s), (2, .pointer (some ⟨b2, 0, none⟩)), (5, v6), (6, .int .i64 20), (7, .int .i64 ↑k)] aa ∧ Chg 0 0 w6 w' ∧ (mm = 20 - k) ∧ (k ≤ 20) ∧ (∀ i, i < k → ¬ (tabS.getD i cr0).code = s)) (20) (fun a ha => ⟨0, ha.sub (Sub.c 0 rfl (.c 2 rfl (.c 5 rfl (.c 6 rfl (.c 7 (look_int (t := 7) rfl (by first | omega | simp)) .nil))))), Chg.refl _ _ _, rfl, by omega, fun i h => by omega⟩) ?_
 rintro mm aa wl7 ⟨k, hAwl7, cwl7, hm, hk, hn⟩
 refine (show cw Tryd.prog 18 _ _ _ wl7 from ?_) aa hAwl7
 clear hAwl7
 have zwl7 := cwl7.size
 refine sx_seq fun K8 k8 => sx_region ?_
 refine sp rfl (px_lt rfl rfl) ?_
 refine wl_nil (q_n (k8 _ _ ?_))
 refine sx_seq fun K9 k9 => ?_
 refine sx_condP rfl (fun h24 => ?_) (fun h24 => ?_)
 ·
  refine sx_skip ?_
  refine q_n (k9 _ _ ?_)
  refine sx_seq fun K10 k10 => ?_
  refine sx_block ?_
  refine sx_seq fun K11 k11 => sx_region ?_
  have f12 := osl_6.ext cwl7
  refine sp rfl (px_indexK (j := k) rfl rfl (by omega) Tryd.underlying134 Tryd.sizeOf119 f12.sv (by omega)) ?_
  refine sp rfl (px_load rfl (f12.sv.loadA (cr_look (l := tabS) (k := k) (by rw [show tabS.length = 20 from rfl]; omega)) Tryd.isAgg119 Tryd.sizeOf119)) ?_
  refine sx_alloc [.string (⟨#[]⟩), .string (⟨#[]⟩), .int .i64 0, .int .i64 0] rfl Tryd.zeroValue119 rfl (fun b13 w14 eb13 sb13 fb13 cb13 => ?_)
  have zw14 := cb13.size
  refine sx_store (vs := [.string ((tabS.getD k cr0).code), .string ((tabS.getD k cr0).number), .int .i64 ((tabS.getD k cr0).places), .int .i64 ((tabS.getD k cr0).cash)]) rfl rfl fb13 rfl Tryd.sizeOf119 (nbl rfl) (one_cons rfl (o3 rfl rfl rfl)) (fun w15 sw15 fw15 cw15 => ?_)
  have zw15 := cw15.size
  have gw15 : Blk w15 b13 [.string ((tabS.getD k cr0).code), .string ((tabS.getD k cr0).number), .int .i64 ((tabS.getD k cr0).places), .int .i64 ((tabS.getD k cr0).cash)] 119 := fw15
  refine wl_nil (q_n (k11 _ _ ?_))
  refine sx_seq fun K16 k16 => sx_region ?_
  refine sp rfl (px_field rfl xfld119x0) ?_
  refine sp rfl (px_load rfl (gw15.load1 rfl Tryd.isAgg9)) ?_
  refine mv rfl rfl (sp rfl (px_eqS rfl rfl) ?_)
  refine wl_nil (q_n (k16 _ _ ?_))
  refine sx_condP rfl (fun h25 => ?_) (fun h25 => ?_)
  ·
   refine sx_seq fun K17 k17 => sx_region ?_
   refine sp rfl (px_load rfl (gw15.loadA (vs := [.string ((tabS.getD k cr0).code), .string ((tabS.getD k cr0).number), .int .i64 ((tabS.getD k cr0).places), .int .i64 ((tabS.getD k cr0).cash)]) (look_lit rfl) Tryd.isAgg119 Tryd.sizeOf119)) ?_
   have f20 := (fb2.ext c6).ext cwl7
   have f21 := f20.ext cb13
   have f22 := f21.chg cw15 (by omega)
   refine sx_store (vs := [.string ((tabS.getD k cr0).code), .string ((tabS.getD k cr0).number), .int .i64 ((tabS.getD k cr0).places), .int .i64 ((tabS.getD k cr0).cash)]) rfl rfl f22 rfl Tryd.sizeOf119 (nbl rfl) (one_cons rfl (o3 rfl rfl rfl)) (fun w18 sw18 fw18 cw18 => ?_)
   have zw18 := cw18.size
   have gw18 : Blk w18 b2 [.string ((tabS.getD k cr0).code), .string ((tabS.getD k cr0).number), .int .i64 ((tabS.getD k cr0).places), .int .i64 ((tabS.getD k cr0).cash)] 119 := fw18
   refine wl_nil (q_n (k17 _ _ ?_))
   refine sx_retc ?_
   refine q_br (q_r (q_r (q_br (q_r (sx_ret1 Tryd.results103 ⟨_, rfl, gw18.loadA (vs := [.string ((tabS.getD k cr0).code), .string ((tabS.getD k cr0).number), .int .i64 ((tabS.getD k cr0).places), .int .i64 ((tabS.getD k cr0).cash)]) (look_lit rfl) Tryd.isAgg119 Tryd.sizeOf119⟩ ?_)))))
   have e := curOf_someS (by rw [show tabS.length = 20 from rfl]; omega) hn h25
   rw [e]
   have q23 := Chg.step (l := 0) (h := 0) (Chg.zero (l := 0) (h := 0) (((cb2.t c6).t cwl7).t cb13)) cw15 (by omega)
   have q24 := Chg.step (l := 0) (h := 0) q23 cw18 (by omega)
   exact ⟨rfl, q24⟩
  refine sx_skip ?_
  refine q_bn (q_n (k10 _ _ ?_))
  refine sx_region ?_
  refine sp rfl (px_add rfl rfl (by omega)) ?_
  refine mv rfl rfl (wl_nil ?_)
  have q25 := Chg.step (l := 0) (h := 0) (Chg.zero (l := 0) (h := 0) (cwl7.t cb13)) cw15 (by omega)
  exact fun a ha => ⟨_, by omega, (k + 1), ha.sub (Sub.c 0 rfl (.c 2 rfl (.c 5 rfl (.c 6 rfl (.c 7 (look_int (t := 7) rfl (by first | omega | simp)) .nil))))), q25, rfl, by omega, upto_succ hn h25⟩
 refine sx_exit ?_
 refine q_e (q_e (q_bx (q_n (k4 _ _ ?_))))
 refine sx_seq fun K26 k26 => sx_region ?_
 refine sp rfl (px_build rfl (xbld119x  _)) ?_
 have f29 := (fb2.ext c6).ext cwl7
 refine sx_store (vs := [.string (⟨#[]⟩), .string (⟨#[]⟩), .int .i64 0, .int .i64 0]) rfl rfl f29 rfl Tryd.sizeOf119 (nbl rfl) (one_cons rfl (o3 rfl rfl rfl)) (fun w27 sw27 fw27 cw27 => ?_)
 have zw27 := cw27.size
 have gw27 : Blk w27 b2 [.string (⟨#[]⟩), .string (⟨#[]⟩), .int .i64 0, .int .i64 0] 119 := fw27
 refine wl_nil (q_n (k26 _ _ ?_))
 refine sx_retc ?_
 refine sx_ret1 Tryd.results103 ⟨_, rfl, gw27.loadA (vs := [.string (⟨#[]⟩), .string (⟨#[]⟩), .int .i64 0, .int .i64 0]) (look_lit rfl) Tryd.isAgg119 Tryd.sizeOf119⟩ ?_
 have e := curOf_noneS (s := s) (fun i hi => hn i (by rw [show tabS.length = 20 from rfl] at hi; omega))
 rw [e]
 have q30 := Chg.step (l := 0) (h := 0) (Chg.zero (l := 0) (h := 0) ((cb2.t c6).t cwl7)) cw27 (by omega)
 exact ⟨rfl, q30⟩

theorem c_sCurKnown {w : World} {s : ByteArray} :
  Ret Tryd.prog 58 [.string s] w fun v w' => v = .bool (decide (Known s)) ∧ Chg 0 0 w w' := by
 refine sx_enter Tryd.func58 rfl Tryd.ntmps58 (nbl rfl) ?_
 refine sx_seq fun K1 k1 => sx_region ?_
 refine av rfl rfl (wl_nil (q_n (k1 _ _ ?_)))
 refine sx_seq fun K2 k2 => sx_region ?_
 refine mv rfl rfl (sx_call rfl rfl Tryd.call103 (c_l08Find) (fun v3 w3 p3 => ?_))
 obtain ⟨rfl, c3⟩ := p3
 have zw3 := c3.size
 refine sp rfl (px_fieldv rfl (xfv119x0 _)) ?_
 refine sp rfl (px_neS rfl rfl) ?_
 refine av rfl rfl (wl_nil (q_n (k2 _ _ ?_)))
 refine sx_retc ?_
 refine sx_ret1 Tryd.results58 rfl ?_
 exact ⟨bIff (known_iff s).symm, c3⟩

theorem c_l01In {w : World} {n : Int} {lo : Int} {hi : Int} :
  Ret Tryd.prog 111 [.int .i64 n, .int .i64 lo, .int .i64 hi] w fun v w' => v = .bool (decide (lo ≤ n ∧ n ≤ hi)) ∧ Chg 0 0 w w' := by
 refine sx_enter Tryd.func111 rfl Tryd.ntmps111 (nbl rfl) ?_
 refine sx_seq fun K1 k1 => sx_region ?_
 refine av rfl rfl (wl_nil (q_n (k1 _ _ ?_)))
 refine sx_seq fun K2 k2 => sx_region ?_
 refine mv rfl rfl (mv rfl rfl (sp rfl (px_ge rfl rfl) ?_))
 refine mv rfl rfl ?_
 refine sx_tmpP (t := 10) rfl (fun h5 => ?_) (fun h5 => ?_)
 ·
  refine sx_guardT rfl rfl rfl ?_
  refine mv rfl rfl ?_
  refine sx_guardT rfl rfl rfl ?_
  refine mv rfl rfl ?_
  refine sx_guardT rfl rfl rfl ?_
  refine sp rfl (px_le rfl rfl) ?_
  refine sp rfl (px_pick rfl rfl) ?_
  refine av rfl rfl (wl_nil (q_n (k2 _ _ ?_)))
  refine sx_retc ?_
  refine sx_ret1 Tryd.results111 rfl ?_
  exact ⟨(by first | exact bIff (by omega) | exact bFalse (by omega) | exact bTrue (by omega)), (Chg.refl 0 0 _)⟩
 refine sx_guardF rfl rfl rfl rfl rfl rfl ?_
 refine sx_guardF rfl rfl rfl rfl rfl rfl ?_
 refine sx_guardF rfl rfl rfl rfl rfl rfl ?_
 refine sp rfl (px_pick rfl rfl) ?_
 refine av rfl rfl (wl_nil (q_n (k2 _ _ ?_)))
 refine sx_retc ?_
 refine sx_ret1 Tryd.results111 rfl ?_
 exact ⟨(by first | exact bIff (by omega) | exact bFalse (by omega) | exact bTrue (by omega)), (Chg.refl 0 0 _)⟩

theorem c_sNatOk {w : World} {va : Value} {lva uva : Nat} {zs : List Int} (hva : Sl w lva uva va (zs)) (h63 : zs.length ≤ 4611686018427387904) :
  Ret Tryd.prog 104 [va] w fun v w' => v = .bool (decide (NOk zs)) ∧ Chg 0 0 w w' := by
 have hva0 := hva.fit
 refine sx_enter Tryd.func104 rfl Tryd.ntmps104 (nbl rfl) ?_
 refine sx_seq fun K1 k1 => sx_region ?_
 refine av rfl rfl (wl_nil (q_n (k1 _ _ ?_)))
 refine sx_seq fun K2 k2 => ?_
 refine sx_seq fun K3 k3 => sx_region ?_
 refine mv rfl rfl (sp rfl (px_len rfl Tryd.underlying22 hva0) ?_)
 refine mv rfl rfl (wl_nil (q_n (k3 _ _ ?_)))
 refine sx_block ?_
 refine sx_loop (fun mm aa w' => ∃ (k : Nat), Agr 32 [(0, va), (5, va), (6, .int .i64 ↑zs.length), (7, .int .i64 ↑k)] aa ∧ Chg 0 0 w w' ∧ (mm = zs.length - k) ∧ (k ≤ zs.length) ∧ (∀ i, i < k → 0 ≤ zs.getD i 0 ∧ zs.getD i 0 < 1000000000)) (_) (fun a ha => ⟨0, ha.sub (Sub.c 0 rfl (.c 5 rfl (.c 6 (look_int (t := 6) rfl (by first | omega | simp)) (.c 7 (look_int (t := 7) rfl (by first | omega | simp)) .nil)))), Chg.refl _ _ _, rfl, by omega, fun i h => by omega⟩) ?_
 rintro mm aa wl4 ⟨k, hAwl4, cwl4, hm, hk, hall⟩
 refine (show cw Tryd.prog 32 _ _ _ wl4 from ?_) aa hAwl4
 clear hAwl4
 have zwl4 := cwl4.size
 refine sx_seq fun K5 k5 => sx_region ?_
 refine sp rfl (px_lt rfl rfl) ?_
 refine wl_nil (q_n (k5 _ _ ?_))
 refine sx_seq fun K6 k6 => ?_
 refine sx_condP rfl (fun h7 => ?_) (fun h7 => ?_)
 ·
  refine sx_skip ?_
  refine q_n (k6 _ _ ?_)
  refine sx_seq fun K7 k7 => ?_
  refine sx_block ?_
  refine sx_seq fun K8 k8 => sx_region ?_
  have f9 := hva0.ext cwl4
  refine sp rfl (px_index1 (j := k) rfl rfl (by omega) Tryd.underlying22 Tryd.sizeOf3 f9 (by omega)) ?_
  refine sp rfl (px_load rfl (f9.load1 (at_int (by omega)) Tryd.isAgg3)) ?_
  refine av rfl rfl (wl_nil (q_n (k8 _ _ ?_)))
  refine sx_seq fun K10 k10 => sx_region ?_
  refine mv rfl rfl (sx_call rfl rfl Tryd.call111 (c_l01In) (fun v11 w11 p11 => ?_))
  obtain ⟨rfl, c11⟩ := p11
  have zw11 := c11.size
  refine sp rfl (px_notP rfl) ?_
  refine wl_nil (q_n (k10 _ _ ?_))
  refine sx_condP rfl (fun h8 => ?_) (fun h8 => ?_)
  ·
   refine sx_seq fun K12 k12 => sx_region ?_
   refine av rfl rfl (wl_nil (q_n (k12 _ _ ?_)))
   refine sx_retc ?_
   refine q_br (q_r (q_r (q_br (q_r (sx_ret1 Tryd.results104 rfl ?_)))))
   exact ⟨bFalse (fun h => by have h1 := h.1.getD k; omega), (cwl4.t c11)⟩
  refine sx_skip ?_
  refine q_bn (q_n (k7 _ _ ?_))
  refine sx_region ?_
  refine sp rfl (px_add rfl rfl (by omega)) ?_
  refine mv rfl rfl (wl_nil ?_)
  exact fun a ha => ⟨_, by omega, (k + 1), ha.sub (Sub.c 0 rfl (.c 5 rfl (.c 6 rfl (.c 7 (look_int (t := 7) rfl (by first | omega | simp)) .nil)))), (cwl4.t c11), rfl, by omega, lm_succ hall (by omega)⟩
 refine sx_exit ?_
 refine q_e (q_e (q_bx (q_n (k2 _ _ ?_))))
 refine sx_seq fun K13 k13 => ?_
 have ek : k = zs.length := by omega
 have hz : Lm zs := lm_mem (by rw [← ek]; exact hall)
 refine sx_region ?_
 refine mv rfl rfl ?_
 have f14 := hva0.ext cwl4
 refine sp rfl (px_len rfl Tryd.underlying22 f14) ?_
 refine sp rfl (px_le rfl rfl) ?_
 refine mv rfl rfl ?_
 refine sx_tmpP (t := 18) rfl (fun h12 => ?_) (fun h12 => ?_)
 ·
  refine sx_guardT rfl rfl rfl ?_
  refine mv rfl rfl ?_
  refine sx_guardT rfl rfl rfl ?_
  refine sp rfl (px_len rfl Tryd.underlying22 f14) ?_
  refine sx_guardT rfl rfl rfl ?_
  refine sp rfl (px_eq rfl rfl) ?_
  refine sx_guardT rfl rfl rfl ?_
  refine mv rfl rfl ?_
  refine sx_tmpP (t := 22) rfl (fun h12x1 => ?_) (fun h12x1 => ?_)
  ·
   refine sx_guardF rfl rfl rfl rfl rfl rfl ?_
   refine sx_guardF rfl rfl rfl rfl rfl rfl ?_
   refine sx_guardF rfl rfl rfl rfl rfl rfl ?_
   refine sx_guardF rfl rfl rfl rfl rfl rfl ?_
   refine sx_guardF rfl rfl rfl rfl rfl rfl ?_
   refine sx_guardF rfl rfl rfl rfl rfl rfl ?_
   refine sx_guardF rfl rfl rfl rfl rfl rfl ?_
   refine sx_guardT rfl rfl rfl ?_
   refine sp rfl (px_pick rfl rfl) ?_
   refine sp rfl (px_pick rfl rfl) ?_
   refine av rfl rfl (wl_nil (q_n (k13 _ _ ?_)))
   refine sx_sub (Sub.c 2 rfl .nil) ?_
   refine sx_retc ?_
   refine sx_ret1 Tryd.results104 rfl ?_
   exact ⟨(by first | exact bFalse (fun h => by have h1 := h.2.1; omega) | exact bTrue (NOk_mk hz (by omega) (.inl (by omega))) | exact bIff (NOk_iff hz (by omega) (by omega))), cwl4⟩
  refine sx_guardT rfl rfl rfl ?_
  refine mv rfl rfl ?_
  refine sx_guardT rfl rfl rfl ?_
  refine mv rfl rfl ?_
  refine sx_guardT rfl rfl rfl ?_
  refine sp rfl (px_len rfl Tryd.underlying22 f14) ?_
  refine sx_guardT rfl rfl rfl ?_
  refine sp rfl (px_sub rfl rfl (by omega)) ?_
  refine sx_guardT rfl rfl rfl ?_
  refine sp rfl (px_index1 (j := (zs.length - 1)) rfl rfl (by omega) Tryd.underlying22 Tryd.sizeOf3 f14 (by omega)) ?_
  refine sx_guardT rfl rfl rfl ?_
  refine sp rfl (px_load rfl (f14.load1 (at_int (by omega)) Tryd.isAgg3)) ?_
  refine sx_guardT rfl rfl rfl ?_
  refine sp rfl (px_ne rfl rfl) ?_
  refine sx_guardT rfl rfl rfl ?_
  refine sp rfl (px_pick rfl rfl) ?_
  refine sp rfl (px_pick rfl rfl) ?_
  refine av rfl rfl (wl_nil (q_n (k13 _ _ ?_)))
  refine sx_sub (Sub.c 2 rfl .nil) ?_
  refine sx_retc ?_
  refine sx_ret1 Tryd.results104 rfl ?_
  exact ⟨(by first | exact bFalse (fun h => by have h1 := h.2.1; omega) | exact bTrue (NOk_mk hz (by omega) (.inl (by omega))) | exact bIff (NOk_iff hz (by omega) (by omega))), cwl4⟩
 refine sx_guardF rfl rfl rfl rfl rfl rfl ?_
 refine sx_guardF rfl rfl rfl rfl rfl rfl ?_
 refine sx_guardF rfl rfl rfl rfl rfl rfl ?_
 refine sx_guardF rfl rfl rfl rfl rfl rfl ?_
 refine sx_guardFU rfl rfl rfl rfl rfl ?_
 refine sx_guardFU rfl rfl rfl rfl rfl ?_
 refine sx_guardFU rfl rfl rfl rfl rfl ?_
 refine sx_guardFU rfl rfl rfl rfl rfl ?_
 refine sx_guardFU rfl rfl rfl rfl rfl ?_
 refine sx_guardFU rfl rfl rfl rfl rfl ?_
 refine sx_guardFU rfl rfl rfl rfl rfl ?_
 refine sx_guardF rfl rfl rfl rfl rfl rfl ?_
 refine sp rfl (px_pick rfl rfl) ?_
 refine av rfl rfl (wl_nil (q_n (k13 _ _ ?_)))
 refine sx_sub (Sub.c 2 rfl .nil) ?_
 refine sx_retc ?_
 refine sx_ret1 Tryd.results104 rfl ?_
 exact ⟨(by first | exact bFalse (fun h => by have h1 := h.2.1; omega) | exact bTrue (NOk_mk hz (by omega) (.inl (by omega))) | exact bIff (NOk_iff hz (by omega) (by omega))), cwl4⟩

theorem c_sIntOk {w : World} {n1 : Bool} {v1 : Value} {lv1 uv1 : Nat} {z1 : List Int} (hv1 : Sl w lv1 uv1 v1 (z1)) (h63 : z1.length ≤ 4611686018427387904) :
  Ret Tryd.prog 59 [.agg #[.bool n1, v1]] w fun v w' => v = .bool (decide (IOk n1 z1)) ∧ Chg 0 0 w w' := by
 have hv10 := hv1.fit
 refine sx_enter Tryd.func59 rfl Tryd.ntmps59 (nbl rfl) ?_
 refine sx_seq fun K1 k1 => sx_region ?_
 refine sx_box [.bool n1, v1] rfl rfl rfl (fun b2 w3 eb2 sb2 fb2 cb2 => ?_)
 have zw3 := cb2.size
 refine av rfl rfl (wl_nil (q_n (k1 _ _ ?_)))
 refine sx_seq fun K4 k4 => sx_region ?_
 refine sp rfl (px_field rfl xfld29x1) ?_
 refine sp rfl (px_load rfl (fb2.load1 rfl Tryd.isAgg22)) ?_
 have f5 := hv10.ext cb2
 refine sx_call rfl rfl Tryd.call104 (c_sNatOk f5 (by omega)) (fun v6 w6 p6 => ?_)
 obtain ⟨rfl, c6⟩ := p6
 have zw6 := c6.size
 refine mv rfl rfl ?_
 refine sx_tmpP (t := 6) rfl (fun h6 => ?_) (fun h6 => ?_)
 ·
  refine sx_guardT rfl rfl rfl ?_
  refine sp rfl (px_field rfl xfld29x0) ?_
  refine sx_guardT rfl rfl rfl ?_
  have f7 := fb2.ext c6
  refine sp rfl (px_load rfl (f7.load1 rfl Tryd.isAgg4)) ?_
  refine sx_guardT rfl rfl rfl ?_
  refine sp rfl (px_not rfl) ?_
  refine sx_guardT rfl rfl rfl ?_
  refine mv rfl rfl ?_
  refine sx_tmpB (t := 10) rfl (fun h6x1 => ?_) (fun h6x1 => ?_)
  ·
   refine sx_guardF rfl rfl rfl rfl rfl rfl ?_
   refine sx_guardF rfl rfl rfl rfl rfl rfl ?_
   refine sx_guardF rfl rfl rfl rfl rfl rfl ?_
   refine sx_guardF rfl rfl rfl rfl rfl rfl ?_
   refine sx_guardT rfl rfl rfl ?_
   refine sp rfl (px_pick rfl rfl) ?_
   refine sp rfl (px_pick rfl rfl) ?_
   refine av rfl rfl (wl_nil (q_n (k4 _ _ ?_)))
   refine sx_sub (Sub.c 2 rfl .nil) ?_
   refine sx_retc ?_
   refine sx_ret1 Tryd.results59 rfl ?_
   exact ⟨(by first | exact bTrue (by grind [IOk]) | exact bFalse (by grind [IOk]) | exact bIff (by grind [IOk])), (cb2.t c6)⟩
  refine sx_guardT rfl rfl rfl ?_
  refine sp rfl (px_field rfl xfld29x1) ?_
  refine sx_guardT rfl rfl rfl ?_
  refine sp rfl (px_load rfl (f7.load1 rfl Tryd.isAgg22)) ?_
  refine sx_guardT rfl rfl rfl ?_
  have f8 := f5.ext c6
  refine sp rfl (px_len rfl Tryd.underlying22 f8) ?_
  refine sx_guardT rfl rfl rfl ?_
  refine sp rfl (px_gt rfl rfl) ?_
  refine sx_guardT rfl rfl rfl ?_
  refine sp rfl (px_pick rfl rfl) ?_
  refine sp rfl (px_pick rfl rfl) ?_
  refine av rfl rfl (wl_nil (q_n (k4 _ _ ?_)))
  refine sx_sub (Sub.c 2 rfl .nil) ?_
  refine sx_retc ?_
  refine sx_ret1 Tryd.results59 rfl ?_
  exact ⟨(by first | exact bTrue (by grind [IOk]) | exact bFalse (by grind [IOk]) | exact bIff (by grind [IOk])), (cb2.t c6)⟩
 refine sx_guardF rfl rfl rfl rfl rfl rfl ?_
 refine sx_guardF rfl rfl rfl rfl rfl rfl ?_
 refine sx_guardF rfl rfl rfl rfl rfl rfl ?_
 refine sx_guardF rfl rfl rfl rfl rfl rfl ?_
 refine sx_guardFU rfl rfl rfl rfl rfl ?_
 refine sx_guardFU rfl rfl rfl rfl rfl ?_
 refine sx_guardFU rfl rfl rfl rfl rfl ?_
 refine sx_guardFU rfl rfl rfl rfl rfl ?_
 refine sx_guardF rfl rfl rfl rfl rfl rfl ?_
 refine sp rfl (px_pick rfl rfl) ?_
 refine av rfl rfl (wl_nil (q_n (k4 _ _ ?_)))
 refine sx_sub (Sub.c 2 rfl .nil) ?_
 refine sx_retc ?_
 refine sx_ret1 Tryd.results59 rfl ?_
 exact ⟨(by first | exact bTrue (by grind [IOk]) | exact bFalse (by grind [IOk]) | exact bIff (by grind [IOk])), (cb2.t c6)⟩

theorem c_sMoneyOk {w : World} {c1 : ByteArray} {n1 : Bool} {v1 : Value} {lv1 uv1 : Nat} {z1 : List Int} (hv1 : Sl w lv1 uv1 v1 (z1)) (h63 : z1.length ≤ 4611686018427387904) :
  Ret Tryd.prog 16 [.agg #[.string c1, .bool n1, v1]] w fun v w' => v = .bool (decide (MOk c1 n1 z1)) ∧ Chg 0 0 w w' := by
 have hv10 := hv1.fit
 refine sx_enter Tryd.func16 rfl Tryd.ntmps16 (nbl rfl) ?_
 refine sx_seq fun K1 k1 => sx_region ?_
 refine sx_box [.string c1, .bool n1, v1] rfl rfl rfl (fun b2 w3 eb2 sb2 fb2 cb2 => ?_)
 have zw3 := cb2.size
 refine av rfl rfl (wl_nil (q_n (k1 _ _ ?_)))
 refine sx_seq fun K4 k4 => sx_region ?_
 refine sp rfl (px_field rfl xfld31x0) ?_
 refine sp rfl (px_load rfl (fb2.load1 rfl Tryd.isAgg9)) ?_
 refine sx_call rfl rfl Tryd.call58 (c_sCurKnown) (fun v5 w5 p5 => ?_)
 obtain ⟨rfl, c5⟩ := p5
 have zw5 := c5.size
 refine mv rfl rfl ?_
 refine sx_tmpP (t := 6) rfl (fun h7 => ?_) (fun h7 => ?_)
 ·
  refine sx_guardT rfl rfl rfl ?_
  refine sp rfl (px_field rfl xfld31x1) ?_
  refine sx_guardT rfl rfl rfl ?_
  have f6 := fb2.ext c5
  refine sp rfl (px_load rfl (f6.loadA (vs := [.bool n1, v1]) (look_lit rfl) Tryd.isAgg29 Tryd.sizeOf29)) ?_
  refine sx_guardT rfl rfl rfl ?_
  have f7 := hv10.ext cb2
  have f8 := f7.ext c5
  refine sx_call rfl rfl Tryd.call59 (c_sIntOk f8 (by omega)) (fun v9 w9 p9 => ?_)
  obtain ⟨rfl, c9⟩ := p9
  have zw9 := c9.size
  refine sp rfl (px_pick rfl rfl) ?_
  refine mv rfl rfl ?_
  refine sx_tmpP (t := 11) rfl (fun h7x1 => ?_) (fun h7x1 => ?_)
  ·
   refine sx_guardT rfl rfl rfl ?_
   refine sp rfl (px_field rfl xfld31x1) ?_
   refine sx_guardT rfl rfl rfl ?_
   refine sp rfl (px_field rfl xfld29x1) ?_
   refine sx_guardT rfl rfl rfl ?_
   have f10 := f6.ext c9
   refine sp rfl (px_load rfl (f10.load1 rfl Tryd.isAgg22)) ?_
   refine sx_guardT rfl rfl rfl ?_
   have f11 := f8.ext c9
   refine sp rfl (px_len rfl Tryd.underlying22 f11) ?_
   refine sx_guardT rfl rfl rfl ?_
   refine sp rfl (px_le rfl rfl) ?_
   refine sp rfl (px_pick rfl rfl) ?_
   refine av rfl rfl (wl_nil (q_n (k4 _ _ ?_)))
   refine sx_sub (Sub.c 2 rfl .nil) ?_
   refine sx_retc ?_
   refine sx_ret1 Tryd.results16 rfl ?_
   exact ⟨(by first | exact bTrue (by grind [MOk]) | exact bFalse (by grind [MOk]) | exact bIff (by grind [MOk])), ((cb2.t c5).t c9)⟩
  refine sx_guardF rfl rfl rfl rfl rfl rfl ?_
  refine sx_guardF rfl rfl rfl rfl rfl rfl ?_
  refine sx_guardF rfl rfl rfl rfl rfl rfl ?_
  refine sx_guardF rfl rfl rfl rfl rfl rfl ?_
  refine sx_guardF rfl rfl rfl rfl rfl rfl ?_
  refine sp rfl (px_pick rfl rfl) ?_
  refine av rfl rfl (wl_nil (q_n (k4 _ _ ?_)))
  refine sx_sub (Sub.c 2 rfl .nil) ?_
  refine sx_retc ?_
  refine sx_ret1 Tryd.results16 rfl ?_
  exact ⟨(by first | exact bTrue (by grind [MOk]) | exact bFalse (by grind [MOk]) | exact bIff (by grind [MOk])), ((cb2.t c5).t c9)⟩
 refine sx_guardF rfl rfl rfl rfl rfl rfl ?_
 refine sx_guardF rfl rfl rfl rfl rfl rfl ?_
 refine sx_guardF rfl rfl rfl rfl rfl rfl ?_
 refine sp rfl (px_pick rfl rfl) ?_
 refine mv rfl rfl ?_
 refine sx_guardF rfl rfl rfl rfl rfl rfl ?_
 refine sx_guardF rfl rfl rfl rfl rfl rfl ?_
 refine sx_guardF rfl rfl rfl rfl rfl rfl ?_
 refine sx_guardF rfl rfl rfl rfl rfl rfl ?_
 refine sx_guardF rfl rfl rfl rfl rfl rfl ?_
 refine sp rfl (px_pick rfl rfl) ?_
 refine av rfl rfl (wl_nil (q_n (k4 _ _ ?_)))
 refine sx_sub (Sub.c 2 rfl .nil) ?_
 refine sx_retc ?_
 refine sx_ret1 Tryd.results16 rfl ?_
 exact ⟨(by first | exact bTrue (by grind [MOk]) | exact bFalse (by grind [MOk]) | exact bIff (by grind [MOk])), (cb2.t c5)⟩

theorem c_l02Add {w : World} {va : Value} {lva uva : Nat} {m : Nat} {vb : Value} {lvb uvb : Nat} {n : Nat} (hva : Sl w lva uva va (dg m)) (hvb : Sl w lvb uvb vb (dg n)) (hbm : (dg m).length ≤ 1000) (hbn : (dg n).length ≤ 1000) :
  Ret Tryd.prog 127 [va, vb] w fun v w' => ∃ s, v = s ∧ Sl w' (w.heap.size) (w'.heap.size) s (dg (m + n)) ∧ Chg 0 0 w w' := by
 have hva0 := hva.fit
 have hvb0 := hvb.fit
 refine sx_enter Tryd.func127 rfl Tryd.ntmps127 (nbl rfl) ?_
 refine sx_seq fun K1 k1 => sx_region ?_
 refine av rfl rfl (wl_nil (q_n (k1 _ _ ?_)))
 refine sx_seq fun K2 k2 => sx_region ?_
 refine sx_lit0 rfl xelt22 (fun s3 ws3 ss3 fs3 cs3 => ?_)
 have zws3 := cs3.size
 refine av rfl rfl (wl_nil (q_n (k2 _ _ ?_)))
 refine sx_seq fun K4 k4 => sx_region ?_
 refine av rfl rfl (wl_nil (q_n (k4 _ _ ?_)))
 refine sx_seq fun K5 k5 => ?_
 refine sx_seq fun K6 k6 => sx_region ?_
 refine av rfl rfl (wl_nil (q_n (k6 _ _ ?_)))
 refine sx_block ?_
 refine sx_loop (fun mm aa w' => ∃ (k : Nat) (s : Value) (os : List Int) (c : Nat), Agr 55 [(0, va), (1, vb), (5, s), (6, .int .i64 ((c : Nat) : Int)), (7, .int .i64 ↑k)] aa ∧ Chg w.heap.size ws3.heap.size ws3 w' ∧ Own w' w.heap.size w'.heap.size s intT os.length 1 (os.map (Value.int .i64)) ∧ (mm = max (dg m).length (dg n).length + 1 - k) ∧ (os.length = k) ∧ (Lm os) ∧ (c ≤ 1) ∧ (vl os + Bs ^ k * c = vl ((dg m).take k) + vl ((dg n).take k)) ∧ (k ≤ max (dg m).length (dg n).length ∨ (c = 0 ∧ k = max (dg m).length (dg n).length + 1 ∧ Bs ^ (k - 1) ≤ vl os))) (_) (fun a ha => ⟨0, s3, [], 0, ha.sub (Sub.c 0 rfl (.c 1 rfl (.c 5 rfl (.c 6 (look_int (t := 6) rfl (by first | omega | simp)) (.c 7 (look_int (t := 7) rfl (by first | omega | simp)) .nil))))), Chg.refl _ _ _, (fs3.mono (by omega) (by omega)), rfl, rfl, Lm.nil, by omega, by simp [vl], .inl (Nat.zero_le _)⟩) ?_
 rintro mm aa wl7 ⟨k, s, os, c, hAwl7, cwl7, hs_s, hm, hos, hlm, hc, hv, hlast⟩
 refine (show cw Tryd.prog 55 _ _ _ wl7 from ?_) aa hAwl7
 clear hAwl7
 have zwl7 := cwl7.size
 have am := (Lm_dg m).getD k
 have bn := (Lm_dg n).getD k
 refine sx_seq fun K8 k8 => ?_
 refine sx_seq fun K9 k9 => sx_region ?_
 refine mv rfl rfl (mv rfl rfl ?_)
 have f10 := hva0.ext cs3
 have f11 := f10.chg cwl7 (by omega)
 refine sp rfl (px_len rfl Tryd.underlying22 f11) ?_
 refine sp rfl (px_lt rfl rfl) ?_
 refine mv rfl rfl ?_
 refine sx_tmpP (t := 14) rfl (fun h82 => ?_) (fun h82 => ?_)
 ·
  refine sx_guardF rfl rfl rfl rfl rfl rfl ?_
  refine sx_guardF rfl rfl rfl rfl rfl rfl ?_
  refine sx_guardF rfl rfl rfl rfl rfl rfl ?_
  refine sx_guardF rfl rfl rfl rfl rfl rfl ?_
  refine sp rfl (px_pick rfl rfl) ?_
  refine mv rfl rfl ?_
  refine sx_guardF rfl rfl rfl rfl rfl rfl ?_
  refine sx_guardF rfl rfl rfl rfl rfl rfl ?_
  refine sp rfl (px_pick rfl rfl) ?_
  refine wl_nil (q_n (k9 _ _ ?_))
  refine sx_sub (Sub.c 0 rfl (.c 1 rfl (.c 5 rfl (.c 6 rfl (.c 7 rfl (.c 23 rfl .nil)))))) ?_
  refine sx_condT rfl ?_
  refine sx_skip ?_
  refine q_n (k8 _ _ ?_)
  refine sx_seq fun K12 k12 => ?_
  refine sx_block ?_
  refine sx_seq fun K13 k13 => sx_region ?_
  refine mv rfl rfl (av rfl rfl (wl_nil (q_n (k13 _ _ ?_))))
  refine sx_seq fun K14 k14 => ?_
  refine sx_seq fun K15 k15 => sx_region ?_
  refine mv rfl rfl (mv rfl rfl (sp rfl (px_len rfl Tryd.underlying22 f11) ?_))
  refine sp rfl (px_lt rfl rfl) ?_
  refine wl_nil (q_n (k15 _ _ ?_))
  refine sx_condP rfl (fun h84 => ?_) (fun h84 => ?_)
  ·
   refine sx_region ?_
   refine mv rfl rfl (mv rfl rfl (mv rfl rfl (sp rfl (px_index1 (j := k) rfl rfl (by omega) Tryd.underlying22 Tryd.sizeOf3 f11 (by omega)) ?_)))
   refine sp rfl (px_load rfl (f11.load1 (at_int (by omega)) Tryd.isAgg3)) ?_
   refine sp rfl (px_add rfl rfl (by omega)) ?_
   refine av rfl rfl (wl_nil (q_n (k14 _ _ ?_)))
   refine sx_sub (Sub.c 0 rfl (.c 1 rfl (.c 5 rfl (.c 6 rfl (.c 7 rfl (.c 8 rfl .nil)))))) ?_
   refine sx_seq fun K16 k16 => ?_
   refine sx_seq fun K17 k17 => sx_region ?_
   refine mv rfl rfl (mv rfl rfl ?_)
   have f18 := hvb0.ext cs3
   have f19 := f18.chg cwl7 (by omega)
   refine sp rfl (px_len rfl Tryd.underlying22 f19) ?_
   refine sp rfl (px_lt rfl rfl) ?_
   refine wl_nil (q_n (k17 _ _ ?_))
   refine sx_condP rfl (fun h87 => ?_) (fun h87 => ?_)
   ·
    refine sx_region ?_
    refine mv rfl rfl (mv rfl rfl (mv rfl rfl (sp rfl (px_index1 (j := k) rfl rfl (by omega) Tryd.underlying22 Tryd.sizeOf3 f19 (by omega)) ?_)))
    refine sp rfl (px_load rfl (f19.load1 (at_int (by omega)) Tryd.isAgg3)) ?_
    refine sp rfl (px_add rfl rfl (by omega)) ?_
    refine av rfl rfl (wl_nil (q_n (k16 _ _ ?_)))
    refine sx_sub (Sub.c 0 rfl (.c 1 rfl (.c 5 rfl (.c 6 rfl (.c 7 rfl (.c 8 rfl .nil)))))) ?_
    refine sx_seq fun K20 k20 => sx_region ?_
    refine mv rfl rfl (mv rfl rfl (sp rfl (px_rem rfl rfl (by omega) (by omega)) ?_))
    refine sx_lit1 rfl xelt22 rfl rfl (fun s21 ws21 ss21 fs21 cs21 => ?_)
    have ns21 := Own.norm (f := (Value.int .i64)) (zs := [((((c : Nat) : Int) + ((dg m).getD k 0)) + ((dg n).getD k 0)) % 1000000000]) fs21
    have zws21 := cs21.size
    have f23 := hs_s.ext cs21
    refine sx_append rfl xelt22 rfl rfl f23 ns21.sv one_int (by omega) (by simp only [List.length_cons, List.length_nil]; omega) (by unfold maxLen; simp only [List.length_cons, List.length_nil]; omega) (fun a22 w22 fw22 cw22 => ?_)
    have nw22 := Own.app (f := (Value.int .i64)) (a := os) (b := [((((c : Nat) : Int) + ((dg m).getD k 0)) + ((dg n).getD k 0)) % 1000000000]) fw22
    have zw22 := cw22.size
    refine av rfl rfl (wl_nil (q_n (k20 _ _ ?_)))
    refine sx_region ?_
    refine mv rfl rfl (sp rfl (px_quo rfl rfl (by omega) (by omega) (by omega)) ?_)
    refine av rfl rfl (wl_nil ?_)
    refine q_bn (q_n (k12 _ _ ?_))
    refine sx_region ?_
    refine mv rfl rfl (sp rfl (px_add rfl rfl (by omega)) ?_)
    refine av rfl rfl (wl_nil ?_)
    have q24 := Chg.step (l := w.heap.size) (h := ws3.heap.size) cwl7 cs21 (by omega)
    have q25 := Chg.step (l := w.heap.size) (h := ws3.heap.size) q24 cw22 (by omega)
    have hs : (((((c : Nat) : Int) + ((dg m).getD k 0)) + ((dg n).getD k 0)) : Int) = ((c : Nat) : Int) + (((dg m).getD k 0).toNat : Nat) + (((dg n).getD k 0).toNat : Nat) := by omega
    have hv2 : vl (os ++ [(((((c : Nat) : Int) + ((dg m).getD k 0)) + ((dg n).getD k 0))) % 1000000000]) + Bs ^ (k + 1) * ((((((c : Nat) : Int) + ((dg m).getD k 0)) + ((dg n).getD k 0))) / 1000000000 : Int).toNat = vl ((dg m).take (k + 1)) + vl ((dg n).take (k + 1)) := by
     rw [vl_concat, hos, vl_take_succ', vl_take_succ', Nat.pow_succ]
     exact add_step hs hv
    have hX := mod_bd (s := ((((c : Nat) : Int) + ((dg m).getD k 0)) + ((dg n).getD k 0))) (by omega)
    have hl3 : k + 1 ≤ max (dg m).length (dg n).length ∨ (((((((c : Nat) : Int) + ((dg m).getD k 0)) + ((dg n).getD k 0))) / 1000000000 : Int).toNat = 0 ∧ k + 1 = max (dg m).length (dg n).length + 1 ∧ Bs ^ (k + 1 - 1) ≤ vl (os ++ [(((((c : Nat) : Int) + ((dg m).getD k 0)) + ((dg n).getD k 0))) % 1000000000])) := by
     by_cases hkM : k + 1 ≤ max (dg m).length (dg n).length
     · exact .inl hkM
     · first
      | (exfalso; omega)
      | (refine .inr ⟨by omega, by omega, ?_⟩; rw [vl_concat, hos, Nat.add_sub_cancel, show (((((c : Nat) : Int) + ((dg m).getD k 0)) + ((dg n).getD k 0))) % 1000000000 = 1 by omega]; exact Nat.le_trans (by simp) (Nat.le_add_left _ _))
    exact fun a ha => ⟨_, by omega, (k + 1), a22, (os ++ ([((((c : Nat) : Int) + ((dg m).getD k 0)) + ((dg n).getD k 0)) % 1000000000])), ((((((c : Nat) : Int) + ((dg m).getD k 0)) + ((dg n).getD k 0))) / 1000000000 : Int).toNat, ha.sub (Sub.c 0 rfl (.c 1 rfl (.c 5 rfl (.c 6 (look_int (t := 6) rfl (by first | omega | simp)) (.c 7 (look_int (t := 7) rfl (by first | omega | simp)) .nil))))), q25, (nw22.mono (by omega) (by omega)), rfl, by simp [hos], hlm.append (Lm.single hX.1 hX.2), by omega, hv2, hl3⟩
   have gn := getD_ge (zs := dg n) (k := k) (by omega)
   refine sx_skip ?_
   refine q_n (k16 _ _ ?_)
   refine sx_seq fun K26 k26 => sx_region ?_
   refine mv rfl rfl (mv rfl rfl (sp rfl (px_rem rfl rfl (by omega) (by omega)) ?_))
   refine sx_lit1 rfl xelt22 rfl rfl (fun s27 ws27 ss27 fs27 cs27 => ?_)
   have ns27 := Own.norm (f := (Value.int .i64)) (zs := [(((c : Nat) : Int) + ((dg m).getD k 0)) % 1000000000]) fs27
   have zws27 := cs27.size
   have f29 := hs_s.ext cs27
   refine sx_append rfl xelt22 rfl rfl f29 ns27.sv one_int (by omega) (by simp only [List.length_cons, List.length_nil]; omega) (by unfold maxLen; simp only [List.length_cons, List.length_nil]; omega) (fun a28 w28 fw28 cw28 => ?_)
   have nw28 := Own.app (f := (Value.int .i64)) (a := os) (b := [(((c : Nat) : Int) + ((dg m).getD k 0)) % 1000000000]) fw28
   have zw28 := cw28.size
   refine av rfl rfl (wl_nil (q_n (k26 _ _ ?_)))
   refine sx_sub (Sub.c 0 rfl (.c 1 rfl (.c 5 rfl (.c 6 rfl (.c 7 rfl (.c 8 rfl .nil)))))) ?_
   refine sx_region ?_
   refine mv rfl rfl (sp rfl (px_quo rfl rfl (by omega) (by omega) (by omega)) ?_)
   refine av rfl rfl (wl_nil ?_)
   refine q_bn (q_n (k12 _ _ ?_))
   refine sx_region ?_
   refine mv rfl rfl (sp rfl (px_add rfl rfl (by omega)) ?_)
   refine av rfl rfl (wl_nil ?_)
   have q30 := Chg.step (l := w.heap.size) (h := ws3.heap.size) cwl7 cs27 (by omega)
   have q31 := Chg.step (l := w.heap.size) (h := ws3.heap.size) q30 cw28 (by omega)
   have hs : ((((c : Nat) : Int) + ((dg m).getD k 0)) : Int) = ((c : Nat) : Int) + (((dg m).getD k 0).toNat : Nat) + (((dg n).getD k 0).toNat : Nat) := by omega
   have hv2 : vl (os ++ [((((c : Nat) : Int) + ((dg m).getD k 0))) % 1000000000]) + Bs ^ (k + 1) * (((((c : Nat) : Int) + ((dg m).getD k 0))) / 1000000000 : Int).toNat = vl ((dg m).take (k + 1)) + vl ((dg n).take (k + 1)) := by
    rw [vl_concat, hos, vl_take_succ', vl_take_succ', Nat.pow_succ]
    exact add_step hs hv
   have hX := mod_bd (s := (((c : Nat) : Int) + ((dg m).getD k 0))) (by omega)
   have hl3 : k + 1 ≤ max (dg m).length (dg n).length ∨ ((((((c : Nat) : Int) + ((dg m).getD k 0))) / 1000000000 : Int).toNat = 0 ∧ k + 1 = max (dg m).length (dg n).length + 1 ∧ Bs ^ (k + 1 - 1) ≤ vl (os ++ [((((c : Nat) : Int) + ((dg m).getD k 0))) % 1000000000])) := by
    by_cases hkM : k + 1 ≤ max (dg m).length (dg n).length
    · exact .inl hkM
    · first
     | (exfalso; omega)
     | (refine .inr ⟨by omega, by omega, ?_⟩; rw [vl_concat, hos, Nat.add_sub_cancel, show ((((c : Nat) : Int) + ((dg m).getD k 0))) % 1000000000 = 1 by omega]; exact Nat.le_trans (by simp) (Nat.le_add_left _ _))
   exact fun a ha => ⟨_, by omega, (k + 1), a28, (os ++ ([(((c : Nat) : Int) + ((dg m).getD k 0)) % 1000000000])), (((((c : Nat) : Int) + ((dg m).getD k 0))) / 1000000000 : Int).toNat, ha.sub (Sub.c 0 rfl (.c 1 rfl (.c 5 rfl (.c 6 (look_int (t := 6) rfl (by first | omega | simp)) (.c 7 (look_int (t := 7) rfl (by first | omega | simp)) .nil))))), q31, (nw28.mono (by omega) (by omega)), rfl, by simp [hos], hlm.append (Lm.single hX.1 hX.2), by omega, hv2, hl3⟩
  have gm := getD_ge (zs := dg m) (k := k) (by omega)
  refine sx_skip ?_
  refine q_n (k14 _ _ ?_)
  refine sx_seq fun K32 k32 => ?_
  refine sx_seq fun K33 k33 => sx_region ?_
  refine mv rfl rfl (mv rfl rfl ?_)
  have f34 := hvb0.ext cs3
  have f35 := f34.chg cwl7 (by omega)
  refine sp rfl (px_len rfl Tryd.underlying22 f35) ?_
  refine sp rfl (px_lt rfl rfl) ?_
  refine wl_nil (q_n (k33 _ _ ?_))
  refine sx_sub (Sub.c 0 rfl (.c 1 rfl (.c 5 rfl (.c 6 rfl (.c 7 rfl (.c 8 rfl (.c 40 rfl .nil))))))) ?_
  refine sx_condP rfl (fun h87 => ?_) (fun h87 => ?_)
  ·
   refine sx_region ?_
   refine mv rfl rfl (mv rfl rfl (mv rfl rfl (sp rfl (px_index1 (j := k) rfl rfl (by omega) Tryd.underlying22 Tryd.sizeOf3 f35 (by omega)) ?_)))
   refine sp rfl (px_load rfl (f35.load1 (at_int (by omega)) Tryd.isAgg3)) ?_
   refine sp rfl (px_add rfl rfl (by omega)) ?_
   refine av rfl rfl (wl_nil (q_n (k32 _ _ ?_)))
   refine sx_seq fun K36 k36 => sx_region ?_
   refine mv rfl rfl (mv rfl rfl (sp rfl (px_rem rfl rfl (by omega) (by omega)) ?_))
   refine sx_lit1 rfl xelt22 rfl rfl (fun s37 ws37 ss37 fs37 cs37 => ?_)
   have ns37 := Own.norm (f := (Value.int .i64)) (zs := [(((c : Nat) : Int) + ((dg n).getD k 0)) % 1000000000]) fs37
   have zws37 := cs37.size
   have f39 := hs_s.ext cs37
   refine sx_append rfl xelt22 rfl rfl f39 ns37.sv one_int (by omega) (by simp only [List.length_cons, List.length_nil]; omega) (by unfold maxLen; simp only [List.length_cons, List.length_nil]; omega) (fun a38 w38 fw38 cw38 => ?_)
   have nw38 := Own.app (f := (Value.int .i64)) (a := os) (b := [(((c : Nat) : Int) + ((dg n).getD k 0)) % 1000000000]) fw38
   have zw38 := cw38.size
   refine av rfl rfl (wl_nil (q_n (k36 _ _ ?_)))
   refine sx_sub (Sub.c 0 rfl (.c 1 rfl (.c 5 rfl (.c 6 rfl (.c 7 rfl (.c 8 rfl .nil)))))) ?_
   refine sx_region ?_
   refine mv rfl rfl (sp rfl (px_quo rfl rfl (by omega) (by omega) (by omega)) ?_)
   refine av rfl rfl (wl_nil ?_)
   refine q_bn (q_n (k12 _ _ ?_))
   refine sx_region ?_
   refine mv rfl rfl (sp rfl (px_add rfl rfl (by omega)) ?_)
   refine av rfl rfl (wl_nil ?_)
   have q40 := Chg.step (l := w.heap.size) (h := ws3.heap.size) cwl7 cs37 (by omega)
   have q41 := Chg.step (l := w.heap.size) (h := ws3.heap.size) q40 cw38 (by omega)
   have hs : ((((c : Nat) : Int) + ((dg n).getD k 0)) : Int) = ((c : Nat) : Int) + (((dg m).getD k 0).toNat : Nat) + (((dg n).getD k 0).toNat : Nat) := by omega
   have hv2 : vl (os ++ [((((c : Nat) : Int) + ((dg n).getD k 0))) % 1000000000]) + Bs ^ (k + 1) * (((((c : Nat) : Int) + ((dg n).getD k 0))) / 1000000000 : Int).toNat = vl ((dg m).take (k + 1)) + vl ((dg n).take (k + 1)) := by
    rw [vl_concat, hos, vl_take_succ', vl_take_succ', Nat.pow_succ]
    exact add_step hs hv
   have hX := mod_bd (s := (((c : Nat) : Int) + ((dg n).getD k 0))) (by omega)
   have hl3 : k + 1 ≤ max (dg m).length (dg n).length ∨ ((((((c : Nat) : Int) + ((dg n).getD k 0))) / 1000000000 : Int).toNat = 0 ∧ k + 1 = max (dg m).length (dg n).length + 1 ∧ Bs ^ (k + 1 - 1) ≤ vl (os ++ [((((c : Nat) : Int) + ((dg n).getD k 0))) % 1000000000])) := by
    by_cases hkM : k + 1 ≤ max (dg m).length (dg n).length
    · exact .inl hkM
    · first
     | (exfalso; omega)
     | (refine .inr ⟨by omega, by omega, ?_⟩; rw [vl_concat, hos, Nat.add_sub_cancel, show ((((c : Nat) : Int) + ((dg n).getD k 0))) % 1000000000 = 1 by omega]; exact Nat.le_trans (by simp) (Nat.le_add_left _ _))
   exact fun a ha => ⟨_, by omega, (k + 1), a38, (os ++ ([(((c : Nat) : Int) + ((dg n).getD k 0)) % 1000000000])), (((((c : Nat) : Int) + ((dg n).getD k 0))) / 1000000000 : Int).toNat, ha.sub (Sub.c 0 rfl (.c 1 rfl (.c 5 rfl (.c 6 (look_int (t := 6) rfl (by first | omega | simp)) (.c 7 (look_int (t := 7) rfl (by first | omega | simp)) .nil))))), q41, (nw38.mono (by omega) (by omega)), rfl, by simp [hos], hlm.append (Lm.single hX.1 hX.2), by omega, hv2, hl3⟩
  have gn := getD_ge (zs := dg n) (k := k) (by omega)
  refine sx_skip ?_
  refine q_n (k32 _ _ ?_)
  refine sx_seq fun K42 k42 => sx_region ?_
  refine mv rfl rfl (mv rfl rfl (sp rfl (px_rem rfl rfl (by omega) (by omega)) ?_))
  refine sx_lit1 rfl xelt22 rfl rfl (fun s43 ws43 ss43 fs43 cs43 => ?_)
  have ns43 := Own.norm (f := (Value.int .i64)) (zs := [((c : Nat) : Int) % 1000000000]) fs43
  have zws43 := cs43.size
  have f45 := hs_s.ext cs43
  refine sx_append rfl xelt22 rfl rfl f45 ns43.sv one_int (by omega) (by simp only [List.length_cons, List.length_nil]; omega) (by unfold maxLen; simp only [List.length_cons, List.length_nil]; omega) (fun a44 w44 fw44 cw44 => ?_)
  have nw44 := Own.app (f := (Value.int .i64)) (a := os) (b := [((c : Nat) : Int) % 1000000000]) fw44
  have zw44 := cw44.size
  refine av rfl rfl (wl_nil (q_n (k42 _ _ ?_)))
  refine sx_region ?_
  refine mv rfl rfl (sp rfl (px_quo rfl rfl (by omega) (by omega) (by omega)) ?_)
  refine av rfl rfl (wl_nil ?_)
  refine q_bn (q_n (k12 _ _ ?_))
  refine sx_region ?_
  refine mv rfl rfl (sp rfl (px_add rfl rfl (by omega)) ?_)
  refine av rfl rfl (wl_nil ?_)
  have q46 := Chg.step (l := w.heap.size) (h := ws3.heap.size) cwl7 cs43 (by omega)
  have q47 := Chg.step (l := w.heap.size) (h := ws3.heap.size) q46 cw44 (by omega)
  have hs : (((c : Nat) : Int) : Int) = ((c : Nat) : Int) + (((dg m).getD k 0).toNat : Nat) + (((dg n).getD k 0).toNat : Nat) := by omega
  have hv2 : vl (os ++ [(((c : Nat) : Int)) % 1000000000]) + Bs ^ (k + 1) * ((((c : Nat) : Int)) / 1000000000 : Int).toNat = vl ((dg m).take (k + 1)) + vl ((dg n).take (k + 1)) := by
   rw [vl_concat, hos, vl_take_succ', vl_take_succ', Nat.pow_succ]
   exact add_step hs hv
  have hX := mod_bd (s := ((c : Nat) : Int)) (by omega)
  have hl3 : k + 1 ≤ max (dg m).length (dg n).length ∨ (((((c : Nat) : Int)) / 1000000000 : Int).toNat = 0 ∧ k + 1 = max (dg m).length (dg n).length + 1 ∧ Bs ^ (k + 1 - 1) ≤ vl (os ++ [(((c : Nat) : Int)) % 1000000000])) := by
   by_cases hkM : k + 1 ≤ max (dg m).length (dg n).length
   · exact .inl hkM
   · first
    | (exfalso; omega)
    | (refine .inr ⟨by omega, by omega, ?_⟩; rw [vl_concat, hos, Nat.add_sub_cancel, show (((c : Nat) : Int)) % 1000000000 = 1 by omega]; exact Nat.le_trans (by simp) (Nat.le_add_left _ _))
  exact fun a ha => ⟨_, by omega, (k + 1), a44, (os ++ ([((c : Nat) : Int) % 1000000000])), ((((c : Nat) : Int)) / 1000000000 : Int).toNat, ha.sub (Sub.c 0 rfl (.c 1 rfl (.c 5 rfl (.c 6 (look_int (t := 6) rfl (by first | omega | simp)) (.c 7 (look_int (t := 7) rfl (by first | omega | simp)) .nil))))), q47, (nw44.mono (by omega) (by omega)), rfl, by simp [hos], hlm.append (Lm.single hX.1 hX.2), by omega, hv2, hl3⟩
 refine sx_guardT rfl rfl rfl ?_
 refine mv rfl rfl ?_
 refine sx_guardT rfl rfl rfl ?_
 refine mv rfl rfl ?_
 refine sx_guardT rfl rfl rfl ?_
 have f48 := hvb0.ext cs3
 have f49 := f48.chg cwl7 (by omega)
 refine sp rfl (px_len rfl Tryd.underlying22 f49) ?_
 refine sx_guardT rfl rfl rfl ?_
 refine sp rfl (px_lt rfl rfl) ?_
 refine sp rfl (px_pick rfl rfl) ?_
 refine mv rfl rfl ?_
 refine sx_tmpP (t := 20) rfl (fun h82x1 => ?_) (fun h82x1 => ?_)
 ·
  refine sx_guardF rfl rfl rfl rfl rfl rfl ?_
  refine sx_guardF rfl rfl rfl rfl rfl rfl ?_
  refine sp rfl (px_pick rfl rfl) ?_
  refine wl_nil (q_n (k9 _ _ ?_))
  refine sx_sub (Sub.c 0 rfl (.c 1 rfl (.c 5 rfl (.c 6 rfl (.c 7 rfl (.c 23 rfl .nil)))))) ?_
  refine sx_condT rfl ?_
  refine sx_skip ?_
  refine q_n (k8 _ _ ?_)
  refine sx_seq fun K50 k50 => ?_
  refine sx_block ?_
  refine sx_seq fun K51 k51 => sx_region ?_
  refine mv rfl rfl (av rfl rfl (wl_nil (q_n (k51 _ _ ?_))))
  refine sx_seq fun K52 k52 => ?_
  refine sx_seq fun K53 k53 => sx_region ?_
  refine mv rfl rfl (mv rfl rfl (sp rfl (px_len rfl Tryd.underlying22 f11) ?_))
  refine sp rfl (px_lt rfl rfl) ?_
  refine wl_nil (q_n (k53 _ _ ?_))
  refine sx_condP rfl (fun h84 => ?_) (fun h84 => ?_)
  ·
   refine sx_region ?_
   refine mv rfl rfl (mv rfl rfl (mv rfl rfl (sp rfl (px_index1 (j := k) rfl rfl (by omega) Tryd.underlying22 Tryd.sizeOf3 f11 (by omega)) ?_)))
   refine sp rfl (px_load rfl (f11.load1 (at_int (by omega)) Tryd.isAgg3)) ?_
   refine sp rfl (px_add rfl rfl (by omega)) ?_
   refine av rfl rfl (wl_nil (q_n (k52 _ _ ?_)))
   refine sx_sub (Sub.c 0 rfl (.c 1 rfl (.c 5 rfl (.c 6 rfl (.c 7 rfl (.c 8 rfl .nil)))))) ?_
   refine sx_seq fun K54 k54 => ?_
   refine sx_seq fun K55 k55 => sx_region ?_
   refine mv rfl rfl (mv rfl rfl (sp rfl (px_len rfl Tryd.underlying22 f49) ?_))
   refine sp rfl (px_lt rfl rfl) ?_
   refine wl_nil (q_n (k55 _ _ ?_))
   refine sx_condP rfl (fun h87 => ?_) (fun h87 => ?_)
   ·
    refine sx_region ?_
    refine mv rfl rfl (mv rfl rfl (mv rfl rfl (sp rfl (px_index1 (j := k) rfl rfl (by omega) Tryd.underlying22 Tryd.sizeOf3 f49 (by omega)) ?_)))
    refine sp rfl (px_load rfl (f49.load1 (at_int (by omega)) Tryd.isAgg3)) ?_
    refine sp rfl (px_add rfl rfl (by omega)) ?_
    refine av rfl rfl (wl_nil (q_n (k54 _ _ ?_)))
    refine sx_sub (Sub.c 0 rfl (.c 1 rfl (.c 5 rfl (.c 6 rfl (.c 7 rfl (.c 8 rfl .nil)))))) ?_
    refine sx_seq fun K56 k56 => sx_region ?_
    refine mv rfl rfl (mv rfl rfl (sp rfl (px_rem rfl rfl (by omega) (by omega)) ?_))
    refine sx_lit1 rfl xelt22 rfl rfl (fun s57 ws57 ss57 fs57 cs57 => ?_)
    have ns57 := Own.norm (f := (Value.int .i64)) (zs := [((((c : Nat) : Int) + ((dg m).getD k 0)) + ((dg n).getD k 0)) % 1000000000]) fs57
    have zws57 := cs57.size
    have f59 := hs_s.ext cs57
    refine sx_append rfl xelt22 rfl rfl f59 ns57.sv one_int (by omega) (by simp only [List.length_cons, List.length_nil]; omega) (by unfold maxLen; simp only [List.length_cons, List.length_nil]; omega) (fun a58 w58 fw58 cw58 => ?_)
    have nw58 := Own.app (f := (Value.int .i64)) (a := os) (b := [((((c : Nat) : Int) + ((dg m).getD k 0)) + ((dg n).getD k 0)) % 1000000000]) fw58
    have zw58 := cw58.size
    refine av rfl rfl (wl_nil (q_n (k56 _ _ ?_)))
    refine sx_region ?_
    refine mv rfl rfl (sp rfl (px_quo rfl rfl (by omega) (by omega) (by omega)) ?_)
    refine av rfl rfl (wl_nil ?_)
    refine q_bn (q_n (k50 _ _ ?_))
    refine sx_region ?_
    refine mv rfl rfl (sp rfl (px_add rfl rfl (by omega)) ?_)
    refine av rfl rfl (wl_nil ?_)
    have q60 := Chg.step (l := w.heap.size) (h := ws3.heap.size) cwl7 cs57 (by omega)
    have q61 := Chg.step (l := w.heap.size) (h := ws3.heap.size) q60 cw58 (by omega)
    have hs : (((((c : Nat) : Int) + ((dg m).getD k 0)) + ((dg n).getD k 0)) : Int) = ((c : Nat) : Int) + (((dg m).getD k 0).toNat : Nat) + (((dg n).getD k 0).toNat : Nat) := by omega
    have hv2 : vl (os ++ [(((((c : Nat) : Int) + ((dg m).getD k 0)) + ((dg n).getD k 0))) % 1000000000]) + Bs ^ (k + 1) * ((((((c : Nat) : Int) + ((dg m).getD k 0)) + ((dg n).getD k 0))) / 1000000000 : Int).toNat = vl ((dg m).take (k + 1)) + vl ((dg n).take (k + 1)) := by
     rw [vl_concat, hos, vl_take_succ', vl_take_succ', Nat.pow_succ]
     exact add_step hs hv
    have hX := mod_bd (s := ((((c : Nat) : Int) + ((dg m).getD k 0)) + ((dg n).getD k 0))) (by omega)
    have hl3 : k + 1 ≤ max (dg m).length (dg n).length ∨ (((((((c : Nat) : Int) + ((dg m).getD k 0)) + ((dg n).getD k 0))) / 1000000000 : Int).toNat = 0 ∧ k + 1 = max (dg m).length (dg n).length + 1 ∧ Bs ^ (k + 1 - 1) ≤ vl (os ++ [(((((c : Nat) : Int) + ((dg m).getD k 0)) + ((dg n).getD k 0))) % 1000000000])) := by
     by_cases hkM : k + 1 ≤ max (dg m).length (dg n).length
     · exact .inl hkM
     · first
      | (exfalso; omega)
      | (refine .inr ⟨by omega, by omega, ?_⟩; rw [vl_concat, hos, Nat.add_sub_cancel, show (((((c : Nat) : Int) + ((dg m).getD k 0)) + ((dg n).getD k 0))) % 1000000000 = 1 by omega]; exact Nat.le_trans (by simp) (Nat.le_add_left _ _))
    exact fun a ha => ⟨_, by omega, (k + 1), a58, (os ++ ([((((c : Nat) : Int) + ((dg m).getD k 0)) + ((dg n).getD k 0)) % 1000000000])), ((((((c : Nat) : Int) + ((dg m).getD k 0)) + ((dg n).getD k 0))) / 1000000000 : Int).toNat, ha.sub (Sub.c 0 rfl (.c 1 rfl (.c 5 rfl (.c 6 (look_int (t := 6) rfl (by first | omega | simp)) (.c 7 (look_int (t := 7) rfl (by first | omega | simp)) .nil))))), q61, (nw58.mono (by omega) (by omega)), rfl, by simp [hos], hlm.append (Lm.single hX.1 hX.2), by omega, hv2, hl3⟩
   have gn := getD_ge (zs := dg n) (k := k) (by omega)
   refine sx_skip ?_
   refine q_n (k54 _ _ ?_)
   refine sx_seq fun K62 k62 => sx_region ?_
   refine mv rfl rfl (mv rfl rfl (sp rfl (px_rem rfl rfl (by omega) (by omega)) ?_))
   refine sx_lit1 rfl xelt22 rfl rfl (fun s63 ws63 ss63 fs63 cs63 => ?_)
   have ns63 := Own.norm (f := (Value.int .i64)) (zs := [(((c : Nat) : Int) + ((dg m).getD k 0)) % 1000000000]) fs63
   have zws63 := cs63.size
   have f65 := hs_s.ext cs63
   refine sx_append rfl xelt22 rfl rfl f65 ns63.sv one_int (by omega) (by simp only [List.length_cons, List.length_nil]; omega) (by unfold maxLen; simp only [List.length_cons, List.length_nil]; omega) (fun a64 w64 fw64 cw64 => ?_)
   have nw64 := Own.app (f := (Value.int .i64)) (a := os) (b := [(((c : Nat) : Int) + ((dg m).getD k 0)) % 1000000000]) fw64
   have zw64 := cw64.size
   refine av rfl rfl (wl_nil (q_n (k62 _ _ ?_)))
   refine sx_sub (Sub.c 0 rfl (.c 1 rfl (.c 5 rfl (.c 6 rfl (.c 7 rfl (.c 8 rfl .nil)))))) ?_
   refine sx_region ?_
   refine mv rfl rfl (sp rfl (px_quo rfl rfl (by omega) (by omega) (by omega)) ?_)
   refine av rfl rfl (wl_nil ?_)
   refine q_bn (q_n (k50 _ _ ?_))
   refine sx_region ?_
   refine mv rfl rfl (sp rfl (px_add rfl rfl (by omega)) ?_)
   refine av rfl rfl (wl_nil ?_)
   have q66 := Chg.step (l := w.heap.size) (h := ws3.heap.size) cwl7 cs63 (by omega)
   have q67 := Chg.step (l := w.heap.size) (h := ws3.heap.size) q66 cw64 (by omega)
   have hs : ((((c : Nat) : Int) + ((dg m).getD k 0)) : Int) = ((c : Nat) : Int) + (((dg m).getD k 0).toNat : Nat) + (((dg n).getD k 0).toNat : Nat) := by omega
   have hv2 : vl (os ++ [((((c : Nat) : Int) + ((dg m).getD k 0))) % 1000000000]) + Bs ^ (k + 1) * (((((c : Nat) : Int) + ((dg m).getD k 0))) / 1000000000 : Int).toNat = vl ((dg m).take (k + 1)) + vl ((dg n).take (k + 1)) := by
    rw [vl_concat, hos, vl_take_succ', vl_take_succ', Nat.pow_succ]
    exact add_step hs hv
   have hX := mod_bd (s := (((c : Nat) : Int) + ((dg m).getD k 0))) (by omega)
   have hl3 : k + 1 ≤ max (dg m).length (dg n).length ∨ ((((((c : Nat) : Int) + ((dg m).getD k 0))) / 1000000000 : Int).toNat = 0 ∧ k + 1 = max (dg m).length (dg n).length + 1 ∧ Bs ^ (k + 1 - 1) ≤ vl (os ++ [((((c : Nat) : Int) + ((dg m).getD k 0))) % 1000000000])) := by
    by_cases hkM : k + 1 ≤ max (dg m).length (dg n).length
    · exact .inl hkM
    · first
     | (exfalso; omega)
     | (refine .inr ⟨by omega, by omega, ?_⟩; rw [vl_concat, hos, Nat.add_sub_cancel, show ((((c : Nat) : Int) + ((dg m).getD k 0))) % 1000000000 = 1 by omega]; exact Nat.le_trans (by simp) (Nat.le_add_left _ _))
   exact fun a ha => ⟨_, by omega, (k + 1), a64, (os ++ ([(((c : Nat) : Int) + ((dg m).getD k 0)) % 1000000000])), (((((c : Nat) : Int) + ((dg m).getD k 0))) / 1000000000 : Int).toNat, ha.sub (Sub.c 0 rfl (.c 1 rfl (.c 5 rfl (.c 6 (look_int (t := 6) rfl (by first | omega | simp)) (.c 7 (look_int (t := 7) rfl (by first | omega | simp)) .nil))))), q67, (nw64.mono (by omega) (by omega)), rfl, by simp [hos], hlm.append (Lm.single hX.1 hX.2), by omega, hv2, hl3⟩
  have gm := getD_ge (zs := dg m) (k := k) (by omega)
  refine sx_skip ?_
  refine q_n (k52 _ _ ?_)
  refine sx_seq fun K68 k68 => ?_
  refine sx_seq fun K69 k69 => sx_region ?_
  refine mv rfl rfl (mv rfl rfl (sp rfl (px_len rfl Tryd.underlying22 f49) ?_))
  refine sp rfl (px_lt rfl rfl) ?_
  refine wl_nil (q_n (k69 _ _ ?_))
  refine sx_sub (Sub.c 0 rfl (.c 1 rfl (.c 5 rfl (.c 6 rfl (.c 7 rfl (.c 8 rfl (.c 40 rfl .nil))))))) ?_
  refine sx_condP rfl (fun h87 => ?_) (fun h87 => ?_)
  ·
   refine sx_region ?_
   refine mv rfl rfl (mv rfl rfl (mv rfl rfl (sp rfl (px_index1 (j := k) rfl rfl (by omega) Tryd.underlying22 Tryd.sizeOf3 f49 (by omega)) ?_)))
   refine sp rfl (px_load rfl (f49.load1 (at_int (by omega)) Tryd.isAgg3)) ?_
   refine sp rfl (px_add rfl rfl (by omega)) ?_
   refine av rfl rfl (wl_nil (q_n (k68 _ _ ?_)))
   refine sx_seq fun K70 k70 => sx_region ?_
   refine mv rfl rfl (mv rfl rfl (sp rfl (px_rem rfl rfl (by omega) (by omega)) ?_))
   refine sx_lit1 rfl xelt22 rfl rfl (fun s71 ws71 ss71 fs71 cs71 => ?_)
   have ns71 := Own.norm (f := (Value.int .i64)) (zs := [(((c : Nat) : Int) + ((dg n).getD k 0)) % 1000000000]) fs71
   have zws71 := cs71.size
   have f73 := hs_s.ext cs71
   refine sx_append rfl xelt22 rfl rfl f73 ns71.sv one_int (by omega) (by simp only [List.length_cons, List.length_nil]; omega) (by unfold maxLen; simp only [List.length_cons, List.length_nil]; omega) (fun a72 w72 fw72 cw72 => ?_)
   have nw72 := Own.app (f := (Value.int .i64)) (a := os) (b := [(((c : Nat) : Int) + ((dg n).getD k 0)) % 1000000000]) fw72
   have zw72 := cw72.size
   refine av rfl rfl (wl_nil (q_n (k70 _ _ ?_)))
   refine sx_sub (Sub.c 0 rfl (.c 1 rfl (.c 5 rfl (.c 6 rfl (.c 7 rfl (.c 8 rfl .nil)))))) ?_
   refine sx_region ?_
   refine mv rfl rfl (sp rfl (px_quo rfl rfl (by omega) (by omega) (by omega)) ?_)
   refine av rfl rfl (wl_nil ?_)
   refine q_bn (q_n (k50 _ _ ?_))
   refine sx_region ?_
   refine mv rfl rfl (sp rfl (px_add rfl rfl (by omega)) ?_)
   refine av rfl rfl (wl_nil ?_)
   have q74 := Chg.step (l := w.heap.size) (h := ws3.heap.size) cwl7 cs71 (by omega)
   have q75 := Chg.step (l := w.heap.size) (h := ws3.heap.size) q74 cw72 (by omega)
   have hs : ((((c : Nat) : Int) + ((dg n).getD k 0)) : Int) = ((c : Nat) : Int) + (((dg m).getD k 0).toNat : Nat) + (((dg n).getD k 0).toNat : Nat) := by omega
   have hv2 : vl (os ++ [((((c : Nat) : Int) + ((dg n).getD k 0))) % 1000000000]) + Bs ^ (k + 1) * (((((c : Nat) : Int) + ((dg n).getD k 0))) / 1000000000 : Int).toNat = vl ((dg m).take (k + 1)) + vl ((dg n).take (k + 1)) := by
    rw [vl_concat, hos, vl_take_succ', vl_take_succ', Nat.pow_succ]
    exact add_step hs hv
   have hX := mod_bd (s := (((c : Nat) : Int) + ((dg n).getD k 0))) (by omega)
   have hl3 : k + 1 ≤ max (dg m).length (dg n).length ∨ ((((((c : Nat) : Int) + ((dg n).getD k 0))) / 1000000000 : Int).toNat = 0 ∧ k + 1 = max (dg m).length (dg n).length + 1 ∧ Bs ^ (k + 1 - 1) ≤ vl (os ++ [((((c : Nat) : Int) + ((dg n).getD k 0))) % 1000000000])) := by
    by_cases hkM : k + 1 ≤ max (dg m).length (dg n).length
    · exact .inl hkM
    · first
     | (exfalso; omega)
     | (refine .inr ⟨by omega, by omega, ?_⟩; rw [vl_concat, hos, Nat.add_sub_cancel, show ((((c : Nat) : Int) + ((dg n).getD k 0))) % 1000000000 = 1 by omega]; exact Nat.le_trans (by simp) (Nat.le_add_left _ _))
   exact fun a ha => ⟨_, by omega, (k + 1), a72, (os ++ ([(((c : Nat) : Int) + ((dg n).getD k 0)) % 1000000000])), (((((c : Nat) : Int) + ((dg n).getD k 0))) / 1000000000 : Int).toNat, ha.sub (Sub.c 0 rfl (.c 1 rfl (.c 5 rfl (.c 6 (look_int (t := 6) rfl (by first | omega | simp)) (.c 7 (look_int (t := 7) rfl (by first | omega | simp)) .nil))))), q75, (nw72.mono (by omega) (by omega)), rfl, by simp [hos], hlm.append (Lm.single hX.1 hX.2), by omega, hv2, hl3⟩
  have gn := getD_ge (zs := dg n) (k := k) (by omega)
  refine sx_skip ?_
  refine q_n (k68 _ _ ?_)
  refine sx_seq fun K76 k76 => sx_region ?_
  refine mv rfl rfl (mv rfl rfl (sp rfl (px_rem rfl rfl (by omega) (by omega)) ?_))
  refine sx_lit1 rfl xelt22 rfl rfl (fun s77 ws77 ss77 fs77 cs77 => ?_)
  have ns77 := Own.norm (f := (Value.int .i64)) (zs := [((c : Nat) : Int) % 1000000000]) fs77
  have zws77 := cs77.size
  have f79 := hs_s.ext cs77
  refine sx_append rfl xelt22 rfl rfl f79 ns77.sv one_int (by omega) (by simp only [List.length_cons, List.length_nil]; omega) (by unfold maxLen; simp only [List.length_cons, List.length_nil]; omega) (fun a78 w78 fw78 cw78 => ?_)
  have nw78 := Own.app (f := (Value.int .i64)) (a := os) (b := [((c : Nat) : Int) % 1000000000]) fw78
  have zw78 := cw78.size
  refine av rfl rfl (wl_nil (q_n (k76 _ _ ?_)))
  refine sx_region ?_
  refine mv rfl rfl (sp rfl (px_quo rfl rfl (by omega) (by omega) (by omega)) ?_)
  refine av rfl rfl (wl_nil ?_)
  refine q_bn (q_n (k50 _ _ ?_))
  refine sx_region ?_
  refine mv rfl rfl (sp rfl (px_add rfl rfl (by omega)) ?_)
  refine av rfl rfl (wl_nil ?_)
  have q80 := Chg.step (l := w.heap.size) (h := ws3.heap.size) cwl7 cs77 (by omega)
  have q81 := Chg.step (l := w.heap.size) (h := ws3.heap.size) q80 cw78 (by omega)
  have hs : (((c : Nat) : Int) : Int) = ((c : Nat) : Int) + (((dg m).getD k 0).toNat : Nat) + (((dg n).getD k 0).toNat : Nat) := by omega
  have hv2 : vl (os ++ [(((c : Nat) : Int)) % 1000000000]) + Bs ^ (k + 1) * ((((c : Nat) : Int)) / 1000000000 : Int).toNat = vl ((dg m).take (k + 1)) + vl ((dg n).take (k + 1)) := by
   rw [vl_concat, hos, vl_take_succ', vl_take_succ', Nat.pow_succ]
   exact add_step hs hv
  have hX := mod_bd (s := ((c : Nat) : Int)) (by omega)
  have hl3 : k + 1 ≤ max (dg m).length (dg n).length ∨ (((((c : Nat) : Int)) / 1000000000 : Int).toNat = 0 ∧ k + 1 = max (dg m).length (dg n).length + 1 ∧ Bs ^ (k + 1 - 1) ≤ vl (os ++ [(((c : Nat) : Int)) % 1000000000])) := by
   by_cases hkM : k + 1 ≤ max (dg m).length (dg n).length
   · exact .inl hkM
   · first
    | (exfalso; omega)
    | (refine .inr ⟨by omega, by omega, ?_⟩; rw [vl_concat, hos, Nat.add_sub_cancel, show (((c : Nat) : Int)) % 1000000000 = 1 by omega]; exact Nat.le_trans (by simp) (Nat.le_add_left _ _))
  exact fun a ha => ⟨_, by omega, (k + 1), a78, (os ++ ([((c : Nat) : Int) % 1000000000])), ((((c : Nat) : Int)) / 1000000000 : Int).toNat, ha.sub (Sub.c 0 rfl (.c 1 rfl (.c 5 rfl (.c 6 (look_int (t := 6) rfl (by first | omega | simp)) (.c 7 (look_int (t := 7) rfl (by first | omega | simp)) .nil))))), q81, (nw78.mono (by omega) (by omega)), rfl, by simp [hos], hlm.append (Lm.single hX.1 hX.2), by omega, hv2, hl3⟩
 refine sx_guardT rfl rfl rfl ?_
 refine mv rfl rfl ?_
 refine sx_guardT rfl rfl rfl ?_
 refine sp rfl (px_gt rfl rfl) ?_
 refine sp rfl (px_pick rfl rfl) ?_
 refine wl_nil (q_n (k9 _ _ ?_))
 refine sx_sub (Sub.c 0 rfl (.c 1 rfl (.c 5 rfl (.c 6 rfl (.c 7 rfl (.c 23 rfl .nil)))))) ?_
 refine sx_condP rfl (fun h82x2 => ?_) (fun h82x2 => ?_)
 ·
  refine sx_skip ?_
  refine q_n (k8 _ _ ?_)
  refine sx_seq fun K82 k82 => ?_
  refine sx_block ?_
  refine sx_seq fun K83 k83 => sx_region ?_
  refine mv rfl rfl (av rfl rfl (wl_nil (q_n (k83 _ _ ?_))))
  refine sx_seq fun K84 k84 => ?_
  refine sx_seq fun K85 k85 => sx_region ?_
  refine mv rfl rfl (mv rfl rfl (sp rfl (px_len rfl Tryd.underlying22 f11) ?_))
  refine sp rfl (px_lt rfl rfl) ?_
  refine wl_nil (q_n (k85 _ _ ?_))
  refine sx_condP rfl (fun h84 => ?_) (fun h84 => ?_)
  ·
   refine sx_region ?_
   refine mv rfl rfl (mv rfl rfl (mv rfl rfl (sp rfl (px_index1 (j := k) rfl rfl (by omega) Tryd.underlying22 Tryd.sizeOf3 f11 (by omega)) ?_)))
   refine sp rfl (px_load rfl (f11.load1 (at_int (by omega)) Tryd.isAgg3)) ?_
   refine sp rfl (px_add rfl rfl (by omega)) ?_
   refine av rfl rfl (wl_nil (q_n (k84 _ _ ?_)))
   refine sx_sub (Sub.c 0 rfl (.c 1 rfl (.c 5 rfl (.c 6 rfl (.c 7 rfl (.c 8 rfl .nil)))))) ?_
   refine sx_seq fun K86 k86 => ?_
   refine sx_seq fun K87 k87 => sx_region ?_
   refine mv rfl rfl (mv rfl rfl (sp rfl (px_len rfl Tryd.underlying22 f49) ?_))
   refine sp rfl (px_lt rfl rfl) ?_
   refine wl_nil (q_n (k87 _ _ ?_))
   refine sx_condP rfl (fun h87 => ?_) (fun h87 => ?_)
   ·
    refine sx_region ?_
    refine mv rfl rfl (mv rfl rfl (mv rfl rfl (sp rfl (px_index1 (j := k) rfl rfl (by omega) Tryd.underlying22 Tryd.sizeOf3 f49 (by omega)) ?_)))
    refine sp rfl (px_load rfl (f49.load1 (at_int (by omega)) Tryd.isAgg3)) ?_
    refine sp rfl (px_add rfl rfl (by omega)) ?_
    refine av rfl rfl (wl_nil (q_n (k86 _ _ ?_)))
    refine sx_sub (Sub.c 0 rfl (.c 1 rfl (.c 5 rfl (.c 6 rfl (.c 7 rfl (.c 8 rfl .nil)))))) ?_
    refine sx_seq fun K88 k88 => sx_region ?_
    refine mv rfl rfl (mv rfl rfl (sp rfl (px_rem rfl rfl (by omega) (by omega)) ?_))
    refine sx_lit1 rfl xelt22 rfl rfl (fun s89 ws89 ss89 fs89 cs89 => ?_)
    have ns89 := Own.norm (f := (Value.int .i64)) (zs := [((((c : Nat) : Int) + ((dg m).getD k 0)) + ((dg n).getD k 0)) % 1000000000]) fs89
    have zws89 := cs89.size
    have f91 := hs_s.ext cs89
    refine sx_append rfl xelt22 rfl rfl f91 ns89.sv one_int (by omega) (by simp only [List.length_cons, List.length_nil]; omega) (by unfold maxLen; simp only [List.length_cons, List.length_nil]; omega) (fun a90 w90 fw90 cw90 => ?_)
    have nw90 := Own.app (f := (Value.int .i64)) (a := os) (b := [((((c : Nat) : Int) + ((dg m).getD k 0)) + ((dg n).getD k 0)) % 1000000000]) fw90
    have zw90 := cw90.size
    refine av rfl rfl (wl_nil (q_n (k88 _ _ ?_)))
    refine sx_region ?_
    refine mv rfl rfl (sp rfl (px_quo rfl rfl (by omega) (by omega) (by omega)) ?_)
    refine av rfl rfl (wl_nil ?_)
    refine q_bn (q_n (k82 _ _ ?_))
    refine sx_region ?_
    refine mv rfl rfl (sp rfl (px_add rfl rfl (by omega)) ?_)
    refine av rfl rfl (wl_nil ?_)
    have q92 := Chg.step (l := w.heap.size) (h := ws3.heap.size) cwl7 cs89 (by omega)
    have q93 := Chg.step (l := w.heap.size) (h := ws3.heap.size) q92 cw90 (by omega)
    have hs : (((((c : Nat) : Int) + ((dg m).getD k 0)) + ((dg n).getD k 0)) : Int) = ((c : Nat) : Int) + (((dg m).getD k 0).toNat : Nat) + (((dg n).getD k 0).toNat : Nat) := by omega
    have hv2 : vl (os ++ [(((((c : Nat) : Int) + ((dg m).getD k 0)) + ((dg n).getD k 0))) % 1000000000]) + Bs ^ (k + 1) * ((((((c : Nat) : Int) + ((dg m).getD k 0)) + ((dg n).getD k 0))) / 1000000000 : Int).toNat = vl ((dg m).take (k + 1)) + vl ((dg n).take (k + 1)) := by
     rw [vl_concat, hos, vl_take_succ', vl_take_succ', Nat.pow_succ]
     exact add_step hs hv
    have hX := mod_bd (s := ((((c : Nat) : Int) + ((dg m).getD k 0)) + ((dg n).getD k 0))) (by omega)
    have hl3 : k + 1 ≤ max (dg m).length (dg n).length ∨ (((((((c : Nat) : Int) + ((dg m).getD k 0)) + ((dg n).getD k 0))) / 1000000000 : Int).toNat = 0 ∧ k + 1 = max (dg m).length (dg n).length + 1 ∧ Bs ^ (k + 1 - 1) ≤ vl (os ++ [(((((c : Nat) : Int) + ((dg m).getD k 0)) + ((dg n).getD k 0))) % 1000000000])) := by
     by_cases hkM : k + 1 ≤ max (dg m).length (dg n).length
     · exact .inl hkM
     · first
      | (exfalso; omega)
      | (refine .inr ⟨by omega, by omega, ?_⟩; rw [vl_concat, hos, Nat.add_sub_cancel, show (((((c : Nat) : Int) + ((dg m).getD k 0)) + ((dg n).getD k 0))) % 1000000000 = 1 by omega]; exact Nat.le_trans (by simp) (Nat.le_add_left _ _))
    exact fun a ha => ⟨_, by omega, (k + 1), a90, (os ++ ([((((c : Nat) : Int) + ((dg m).getD k 0)) + ((dg n).getD k 0)) % 1000000000])), ((((((c : Nat) : Int) + ((dg m).getD k 0)) + ((dg n).getD k 0))) / 1000000000 : Int).toNat, ha.sub (Sub.c 0 rfl (.c 1 rfl (.c 5 rfl (.c 6 (look_int (t := 6) rfl (by first | omega | simp)) (.c 7 (look_int (t := 7) rfl (by first | omega | simp)) .nil))))), q93, (nw90.mono (by omega) (by omega)), rfl, by simp [hos], hlm.append (Lm.single hX.1 hX.2), by omega, hv2, hl3⟩
   have gn := getD_ge (zs := dg n) (k := k) (by omega)
   refine sx_skip ?_
   refine q_n (k86 _ _ ?_)
   refine sx_seq fun K94 k94 => sx_region ?_
   refine mv rfl rfl (mv rfl rfl (sp rfl (px_rem rfl rfl (by omega) (by omega)) ?_))
   refine sx_lit1 rfl xelt22 rfl rfl (fun s95 ws95 ss95 fs95 cs95 => ?_)
   have ns95 := Own.norm (f := (Value.int .i64)) (zs := [(((c : Nat) : Int) + ((dg m).getD k 0)) % 1000000000]) fs95
   have zws95 := cs95.size
   have f97 := hs_s.ext cs95
   refine sx_append rfl xelt22 rfl rfl f97 ns95.sv one_int (by omega) (by simp only [List.length_cons, List.length_nil]; omega) (by unfold maxLen; simp only [List.length_cons, List.length_nil]; omega) (fun a96 w96 fw96 cw96 => ?_)
   have nw96 := Own.app (f := (Value.int .i64)) (a := os) (b := [(((c : Nat) : Int) + ((dg m).getD k 0)) % 1000000000]) fw96
   have zw96 := cw96.size
   refine av rfl rfl (wl_nil (q_n (k94 _ _ ?_)))
   refine sx_sub (Sub.c 0 rfl (.c 1 rfl (.c 5 rfl (.c 6 rfl (.c 7 rfl (.c 8 rfl .nil)))))) ?_
   refine sx_region ?_
   refine mv rfl rfl (sp rfl (px_quo rfl rfl (by omega) (by omega) (by omega)) ?_)
   refine av rfl rfl (wl_nil ?_)
   refine q_bn (q_n (k82 _ _ ?_))
   refine sx_region ?_
   refine mv rfl rfl (sp rfl (px_add rfl rfl (by omega)) ?_)
   refine av rfl rfl (wl_nil ?_)
   have q98 := Chg.step (l := w.heap.size) (h := ws3.heap.size) cwl7 cs95 (by omega)
   have q99 := Chg.step (l := w.heap.size) (h := ws3.heap.size) q98 cw96 (by omega)
   have hs : ((((c : Nat) : Int) + ((dg m).getD k 0)) : Int) = ((c : Nat) : Int) + (((dg m).getD k 0).toNat : Nat) + (((dg n).getD k 0).toNat : Nat) := by omega
   have hv2 : vl (os ++ [((((c : Nat) : Int) + ((dg m).getD k 0))) % 1000000000]) + Bs ^ (k + 1) * (((((c : Nat) : Int) + ((dg m).getD k 0))) / 1000000000 : Int).toNat = vl ((dg m).take (k + 1)) + vl ((dg n).take (k + 1)) := by
    rw [vl_concat, hos, vl_take_succ', vl_take_succ', Nat.pow_succ]
    exact add_step hs hv
   have hX := mod_bd (s := (((c : Nat) : Int) + ((dg m).getD k 0))) (by omega)
   have hl3 : k + 1 ≤ max (dg m).length (dg n).length ∨ ((((((c : Nat) : Int) + ((dg m).getD k 0))) / 1000000000 : Int).toNat = 0 ∧ k + 1 = max (dg m).length (dg n).length + 1 ∧ Bs ^ (k + 1 - 1) ≤ vl (os ++ [((((c : Nat) : Int) + ((dg m).getD k 0))) % 1000000000])) := by
    by_cases hkM : k + 1 ≤ max (dg m).length (dg n).length
    · exact .inl hkM
    · first
     | (exfalso; omega)
     | (refine .inr ⟨by omega, by omega, ?_⟩; rw [vl_concat, hos, Nat.add_sub_cancel, show ((((c : Nat) : Int) + ((dg m).getD k 0))) % 1000000000 = 1 by omega]; exact Nat.le_trans (by simp) (Nat.le_add_left _ _))
   exact fun a ha => ⟨_, by omega, (k + 1), a96, (os ++ ([(((c : Nat) : Int) + ((dg m).getD k 0)) % 1000000000])), (((((c : Nat) : Int) + ((dg m).getD k 0))) / 1000000000 : Int).toNat, ha.sub (Sub.c 0 rfl (.c 1 rfl (.c 5 rfl (.c 6 (look_int (t := 6) rfl (by first | omega | simp)) (.c 7 (look_int (t := 7) rfl (by first | omega | simp)) .nil))))), q99, (nw96.mono (by omega) (by omega)), rfl, by simp [hos], hlm.append (Lm.single hX.1 hX.2), by omega, hv2, hl3⟩
  have gm := getD_ge (zs := dg m) (k := k) (by omega)
  refine sx_skip ?_
  refine q_n (k84 _ _ ?_)
  refine sx_seq fun K100 k100 => ?_
  refine sx_seq fun K101 k101 => sx_region ?_
  refine mv rfl rfl (mv rfl rfl (sp rfl (px_len rfl Tryd.underlying22 f49) ?_))
  refine sp rfl (px_lt rfl rfl) ?_
  refine wl_nil (q_n (k101 _ _ ?_))
  refine sx_sub (Sub.c 0 rfl (.c 1 rfl (.c 5 rfl (.c 6 rfl (.c 7 rfl (.c 8 rfl (.c 40 rfl .nil))))))) ?_
  refine sx_condP rfl (fun h87 => ?_) (fun h87 => ?_)
  ·
   refine sx_region ?_
   refine mv rfl rfl (mv rfl rfl (mv rfl rfl (sp rfl (px_index1 (j := k) rfl rfl (by omega) Tryd.underlying22 Tryd.sizeOf3 f49 (by omega)) ?_)))
   refine sp rfl (px_load rfl (f49.load1 (at_int (by omega)) Tryd.isAgg3)) ?_
   refine sp rfl (px_add rfl rfl (by omega)) ?_
   refine av rfl rfl (wl_nil (q_n (k100 _ _ ?_)))
   refine sx_seq fun K102 k102 => sx_region ?_
   refine mv rfl rfl (mv rfl rfl (sp rfl (px_rem rfl rfl (by omega) (by omega)) ?_))
   refine sx_lit1 rfl xelt22 rfl rfl (fun s103 ws103 ss103 fs103 cs103 => ?_)
   have ns103 := Own.norm (f := (Value.int .i64)) (zs := [(((c : Nat) : Int) + ((dg n).getD k 0)) % 1000000000]) fs103
   have zws103 := cs103.size
   have f105 := hs_s.ext cs103
   refine sx_append rfl xelt22 rfl rfl f105 ns103.sv one_int (by omega) (by simp only [List.length_cons, List.length_nil]; omega) (by unfold maxLen; simp only [List.length_cons, List.length_nil]; omega) (fun a104 w104 fw104 cw104 => ?_)
   have nw104 := Own.app (f := (Value.int .i64)) (a := os) (b := [(((c : Nat) : Int) + ((dg n).getD k 0)) % 1000000000]) fw104
   have zw104 := cw104.size
   refine av rfl rfl (wl_nil (q_n (k102 _ _ ?_)))
   refine sx_sub (Sub.c 0 rfl (.c 1 rfl (.c 5 rfl (.c 6 rfl (.c 7 rfl (.c 8 rfl .nil)))))) ?_
   refine sx_region ?_
   refine mv rfl rfl (sp rfl (px_quo rfl rfl (by omega) (by omega) (by omega)) ?_)
   refine av rfl rfl (wl_nil ?_)
   refine q_bn (q_n (k82 _ _ ?_))
   refine sx_region ?_
   refine mv rfl rfl (sp rfl (px_add rfl rfl (by omega)) ?_)
   refine av rfl rfl (wl_nil ?_)
   have q106 := Chg.step (l := w.heap.size) (h := ws3.heap.size) cwl7 cs103 (by omega)
   have q107 := Chg.step (l := w.heap.size) (h := ws3.heap.size) q106 cw104 (by omega)
   have hs : ((((c : Nat) : Int) + ((dg n).getD k 0)) : Int) = ((c : Nat) : Int) + (((dg m).getD k 0).toNat : Nat) + (((dg n).getD k 0).toNat : Nat) := by omega
   have hv2 : vl (os ++ [((((c : Nat) : Int) + ((dg n).getD k 0))) % 1000000000]) + Bs ^ (k + 1) * (((((c : Nat) : Int) + ((dg n).getD k 0))) / 1000000000 : Int).toNat = vl ((dg m).take (k + 1)) + vl ((dg n).take (k + 1)) := by
    rw [vl_concat, hos, vl_take_succ', vl_take_succ', Nat.pow_succ]
    exact add_step hs hv
   have hX := mod_bd (s := (((c : Nat) : Int) + ((dg n).getD k 0))) (by omega)
   have hl3 : k + 1 ≤ max (dg m).length (dg n).length ∨ ((((((c : Nat) : Int) + ((dg n).getD k 0))) / 1000000000 : Int).toNat = 0 ∧ k + 1 = max (dg m).length (dg n).length + 1 ∧ Bs ^ (k + 1 - 1) ≤ vl (os ++ [((((c : Nat) : Int) + ((dg n).getD k 0))) % 1000000000])) := by
    by_cases hkM : k + 1 ≤ max (dg m).length (dg n).length
    · exact .inl hkM
    · first
     | (exfalso; omega)
     | (refine .inr ⟨by omega, by omega, ?_⟩; rw [vl_concat, hos, Nat.add_sub_cancel, show ((((c : Nat) : Int) + ((dg n).getD k 0))) % 1000000000 = 1 by omega]; exact Nat.le_trans (by simp) (Nat.le_add_left _ _))
   exact fun a ha => ⟨_, by omega, (k + 1), a104, (os ++ ([(((c : Nat) : Int) + ((dg n).getD k 0)) % 1000000000])), (((((c : Nat) : Int) + ((dg n).getD k 0))) / 1000000000 : Int).toNat, ha.sub (Sub.c 0 rfl (.c 1 rfl (.c 5 rfl (.c 6 (look_int (t := 6) rfl (by first | omega | simp)) (.c 7 (look_int (t := 7) rfl (by first | omega | simp)) .nil))))), q107, (nw104.mono (by omega) (by omega)), rfl, by simp [hos], hlm.append (Lm.single hX.1 hX.2), by omega, hv2, hl3⟩
  have gn := getD_ge (zs := dg n) (k := k) (by omega)
  refine sx_skip ?_
  refine q_n (k100 _ _ ?_)
  refine sx_seq fun K108 k108 => sx_region ?_
  refine mv rfl rfl (mv rfl rfl (sp rfl (px_rem rfl rfl (by omega) (by omega)) ?_))
  refine sx_lit1 rfl xelt22 rfl rfl (fun s109 ws109 ss109 fs109 cs109 => ?_)
  have ns109 := Own.norm (f := (Value.int .i64)) (zs := [((c : Nat) : Int) % 1000000000]) fs109
  have zws109 := cs109.size
  have f111 := hs_s.ext cs109
  refine sx_append rfl xelt22 rfl rfl f111 ns109.sv one_int (by omega) (by simp only [List.length_cons, List.length_nil]; omega) (by unfold maxLen; simp only [List.length_cons, List.length_nil]; omega) (fun a110 w110 fw110 cw110 => ?_)
  have nw110 := Own.app (f := (Value.int .i64)) (a := os) (b := [((c : Nat) : Int) % 1000000000]) fw110
  have zw110 := cw110.size
  refine av rfl rfl (wl_nil (q_n (k108 _ _ ?_)))
  refine sx_region ?_
  refine mv rfl rfl (sp rfl (px_quo rfl rfl (by omega) (by omega) (by omega)) ?_)
  refine av rfl rfl (wl_nil ?_)
  refine q_bn (q_n (k82 _ _ ?_))
  refine sx_region ?_
  refine mv rfl rfl (sp rfl (px_add rfl rfl (by omega)) ?_)
  refine av rfl rfl (wl_nil ?_)
  have q112 := Chg.step (l := w.heap.size) (h := ws3.heap.size) cwl7 cs109 (by omega)
  have q113 := Chg.step (l := w.heap.size) (h := ws3.heap.size) q112 cw110 (by omega)
  have hs : (((c : Nat) : Int) : Int) = ((c : Nat) : Int) + (((dg m).getD k 0).toNat : Nat) + (((dg n).getD k 0).toNat : Nat) := by omega
  have hv2 : vl (os ++ [(((c : Nat) : Int)) % 1000000000]) + Bs ^ (k + 1) * ((((c : Nat) : Int)) / 1000000000 : Int).toNat = vl ((dg m).take (k + 1)) + vl ((dg n).take (k + 1)) := by
   rw [vl_concat, hos, vl_take_succ', vl_take_succ', Nat.pow_succ]
   exact add_step hs hv
  have hX := mod_bd (s := ((c : Nat) : Int)) (by omega)
  have hl3 : k + 1 ≤ max (dg m).length (dg n).length ∨ (((((c : Nat) : Int)) / 1000000000 : Int).toNat = 0 ∧ k + 1 = max (dg m).length (dg n).length + 1 ∧ Bs ^ (k + 1 - 1) ≤ vl (os ++ [(((c : Nat) : Int)) % 1000000000])) := by
   by_cases hkM : k + 1 ≤ max (dg m).length (dg n).length
   · exact .inl hkM
   · first
    | (exfalso; omega)
    | (refine .inr ⟨by omega, by omega, ?_⟩; rw [vl_concat, hos, Nat.add_sub_cancel, show (((c : Nat) : Int)) % 1000000000 = 1 by omega]; exact Nat.le_trans (by simp) (Nat.le_add_left _ _))
  exact fun a ha => ⟨_, by omega, (k + 1), a110, (os ++ ([((c : Nat) : Int) % 1000000000])), ((((c : Nat) : Int)) / 1000000000 : Int).toNat, ha.sub (Sub.c 0 rfl (.c 1 rfl (.c 5 rfl (.c 6 (look_int (t := 6) rfl (by first | omega | simp)) (.c 7 (look_int (t := 7) rfl (by first | omega | simp)) .nil))))), q113, (nw110.mono (by omega) (by omega)), rfl, by simp [hos], hlm.append (Lm.single hX.1 hX.2), by omega, hv2, hl3⟩
 refine sx_exit ?_
 refine q_e (q_e (q_bx (q_n (k5 _ _ ?_))))
 refine sx_seq fun K114 k114 => ?_
 have hc0 : c = 0 := by omega
 subst hc0
 rw [Nat.mul_zero, Nat.add_zero, vl_take_ge (by omega), vl_take_ge (by omega), vl_dg, vl_dg] at hv
 have hd : os = dg (m + n) := add_end hlm hos hv hlast (by omega)
 subst hd
 refine sx_region ?_
 refine mv rfl rfl (av rfl rfl (wl_nil (q_n (k114 _ _ ?_))))
 refine sx_retc ?_
 refine sx_ret1 Tryd.results127 rfl ?_
 have q115 := Chg.step (l := 0) (h := 0) (Chg.zero (l := 0) (h := 0) cs3) cwl7 (by omega)
 exact ⟨_, rfl, (Own.sv hs_s).mono (by omega) (by omega), q115⟩

theorem c_l02Add1 {w : World} {va : Value} {lva uva : Nat} {m : Nat} {vb : Value} {lvb uvb : Nat} {ys : List Int} (hva : Sl w lva uva va (dg m)) (hvb : Sl w lvb uvb vb (ys)) (hbm : (dg m).length ≤ 1000) (hy : ys = [1]) :
  Ret Tryd.prog 127 [va, vb] w fun v w' => ∃ s, v = s ∧ Sl w' (w.heap.size) (w'.heap.size) s (dg (m + 1)) ∧ Chg 0 0 w w' := by
 rw [hy, ← dg_1] at hvb; exact c_l02Add hva hvb hbm (by rw [dg_1]; simp)

theorem c_l02Trim {w : World} {va : Value} {lva uva : Nat} {zs : List Int} (hva : OwnI w lva uva va intT (zs)) (hz : Lm zs) (h63 : zs.length ≤ 1000000) :
  Ret Tryd.prog 125 [va] w fun v w' => ∃ s, v = s ∧ OwnI w' (lva) (uva) s intT (dg (vl zs)) ∧ Chg 0 0 w w' := by
 refine sx_enter Tryd.func125 rfl Tryd.ntmps125 (nbl rfl) ?_
 refine sx_seq fun K1 k1 => sx_region ?_
 refine av rfl rfl (wl_nil (q_n (k1 _ _ ?_)))
 refine sx_seq fun K2 k2 => sx_region ?_
 refine mv rfl rfl (sp rfl (px_len rfl Tryd.underlying22 hva.sv) ?_)
 refine av rfl rfl (wl_nil (q_n (k2 _ _ ?_)))
 refine sx_seq fun K3 k3 => ?_
 refine sx_block ?_
 refine sx_loop (fun mm aa w' => ∃ (k : Nat), Agr 21 [(0, va), (3, .int .i64 ↑k)] aa ∧ Chg 0 0 w w' ∧ (mm = k) ∧ (k ≤ zs.length) ∧ (vl (zs.take k) = vl zs)) (_) (fun a ha => ⟨zs.length, ha.sub (Sub.c 0 rfl (.c 3 (look_int (t := 3) rfl (by first | omega | simp)) .nil)), Chg.refl _ _ _, rfl, by omega, vl_take_all zs⟩) ?_
 rintro mm aa wl4 ⟨k, hAwl4, cwl4, hm, hk, hv⟩
 refine (show cw Tryd.prog 21 _ _ _ wl4 from ?_) aa hAwl4
 clear hAwl4
 have zwl4 := cwl4.size
 refine sx_seq fun K5 k5 => ?_
 refine sx_seq fun K6 k6 => sx_region ?_
 refine mv rfl rfl (sp rfl (px_gt rfl rfl) ?_)
 refine mv rfl rfl ?_
 refine sx_tmpP (t := 8) rfl (fun h17 => ?_) (fun h17 => ?_)
 ·
  refine sx_guardT rfl rfl rfl ?_
  refine mv rfl rfl ?_
  refine sx_guardT rfl rfl rfl ?_
  refine mv rfl rfl ?_
  refine sx_guardT rfl rfl rfl ?_
  refine sp rfl (px_sub rfl rfl (by omega)) ?_
  refine sx_guardT rfl rfl rfl ?_
  have f7 := hva.ext cwl4
  refine sp rfl (px_index1 (j := (k - 1)) rfl rfl (by omega) Tryd.underlying22 Tryd.sizeOf3 f7.sv (by omega)) ?_
  refine sx_guardT rfl rfl rfl ?_
  refine sp rfl (px_load rfl (f7.sv.load1 (at_int (by omega)) Tryd.isAgg3)) ?_
  refine sx_guardT rfl rfl rfl ?_
  refine sp rfl (px_eq rfl rfl) ?_
  refine sp rfl (px_pick rfl rfl) ?_
  refine wl_nil (q_n (k6 _ _ ?_))
  refine sx_condP rfl (fun h17x1 => ?_) (fun h17x1 => ?_)
  ·
   refine sx_skip ?_
   refine q_n (k5 _ _ ?_)
   refine sx_block ?_
   refine sx_region ?_
   refine mv rfl rfl (sp rfl (px_sub rfl rfl (by omega)) ?_)
   refine av rfl rfl (wl_nil ?_)
   exact q_bn (fun a ha => ⟨_, by omega, (k - 1), ha.sub (Sub.c 0 rfl (.c 3 (look_int (t := 3) rfl (by first | omega | simp)) .nil)), cwl4, rfl, by omega, trim_step (by omega) hk (by rw [getD_take (by omega)]; exact h17x1) hv⟩)
  refine sx_exit ?_
  refine q_e (q_e (q_bx (q_n (k3 _ _ ?_))))
  refine sx_seq fun K8 k8 => sx_region ?_
  refine mv rfl rfl (mv rfl rfl (sp rfl (px_sliceTo (h := k) rfl rfl (by omega) Tryd.underlying22 Tryd.sizeOf3 f7.sv (by omega)) ?_))
  refine av rfl rfl (wl_nil (q_n (k8 _ _ ?_)))
  refine sx_sub (Sub.c 2 rfl .nil) ?_
  refine sx_retc ?_
  refine sx_ret1 Tryd.results125 rfl ?_
  have hd := trim_done hz hk hv (by first | exact .inl (by omega) | exact .inr (by rw [getD_take (by omega)]; assumption))
  rw [← hd]
  exact ⟨_, rfl, (Own.takeI f7 (h := k) (by omega)), cwl4⟩
 refine sx_guardF rfl rfl rfl rfl rfl rfl ?_
 refine sx_guardF rfl rfl rfl rfl rfl rfl ?_
 refine sx_guardF rfl rfl rfl rfl rfl rfl ?_
 refine sx_guardF rfl rfl rfl rfl rfl rfl ?_
 refine sx_guardF rfl rfl rfl rfl rfl rfl ?_
 refine sx_guardF rfl rfl rfl rfl rfl rfl ?_
 refine sp rfl (px_pick rfl rfl) ?_
 refine wl_nil (q_n (k6 _ _ ?_))
 refine sx_condF rfl ?_
 refine sx_exit ?_
 refine q_e (q_e (q_bx (q_n (k3 _ _ ?_))))
 refine sx_seq fun K9 k9 => sx_region ?_
 refine mv rfl rfl (mv rfl rfl ?_)
 have f10 := hva.ext cwl4
 refine sp rfl (px_sliceTo (h := k) rfl rfl (by omega) Tryd.underlying22 Tryd.sizeOf3 f10.sv (by omega)) ?_
 refine av rfl rfl (wl_nil (q_n (k9 _ _ ?_)))
 refine sx_sub (Sub.c 2 rfl .nil) ?_
 refine sx_retc ?_
 refine sx_ret1 Tryd.results125 rfl ?_
 have hd := trim_done hz hk hv (by first | exact .inl (by omega) | exact .inr (by rw [getD_take (by omega)]; assumption))
 rw [← hd]
 exact ⟨_, rfl, (Own.takeI f10 (h := k) (by omega)), cwl4⟩

theorem c_l02TrimS {w : World} {va : Value} {lva uva : Nat} {zs : List Int} (hva : Sl w lva uva va (zs)) (hz : Lm zs) (h63 : zs.length ≤ 1000000) :
  Ret Tryd.prog 125 [va] w fun v w' => ∃ s, v = s ∧ Sl w' (lva) (uva) s (dg (vl zs)) ∧ Chg 0 0 w w' := by
 refine sx_enter Tryd.func125 rfl Tryd.ntmps125 (nbl rfl) ?_
 refine sx_seq fun K1 k1 => sx_region ?_
 refine av rfl rfl (wl_nil (q_n (k1 _ _ ?_)))
 refine sx_seq fun K2 k2 => sx_region ?_
 refine mv rfl rfl (sp rfl (px_len rfl Tryd.underlying22 hva) ?_)
 refine av rfl rfl (wl_nil (q_n (k2 _ _ ?_)))
 refine sx_seq fun K3 k3 => ?_
 refine sx_block ?_
 refine sx_loop (fun mm aa w' => ∃ (k : Nat), Agr 21 [(0, va), (3, .int .i64 ↑k)] aa ∧ Chg 0 0 w w' ∧ (mm = k) ∧ (k ≤ zs.length) ∧ (vl (zs.take k) = vl zs)) (_) (fun a ha => ⟨zs.length, ha.sub (Sub.c 0 rfl (.c 3 (look_int (t := 3) rfl (by first | omega | simp)) .nil)), Chg.refl _ _ _, rfl, by omega, vl_take_all zs⟩) ?_
 rintro mm aa wl4 ⟨k, hAwl4, cwl4, hm, hk, hv⟩
 refine (show cw Tryd.prog 21 _ _ _ wl4 from ?_) aa hAwl4
 clear hAwl4
 have zwl4 := cwl4.size
 refine sx_seq fun K5 k5 => ?_
 refine sx_seq fun K6 k6 => sx_region ?_
 refine mv rfl rfl (sp rfl (px_gt rfl rfl) ?_)
 refine mv rfl rfl ?_
 refine sx_tmpP (t := 8) rfl (fun h17 => ?_) (fun h17 => ?_)
 ·
  refine sx_guardT rfl rfl rfl ?_
  refine mv rfl rfl ?_
  refine sx_guardT rfl rfl rfl ?_
  refine mv rfl rfl ?_
  refine sx_guardT rfl rfl rfl ?_
  refine sp rfl (px_sub rfl rfl (by omega)) ?_
  refine sx_guardT rfl rfl rfl ?_
  have f7 := hva.ext cwl4
  refine sp rfl (px_index1 (j := (k - 1)) rfl rfl (by omega) Tryd.underlying22 Tryd.sizeOf3 f7 (by omega)) ?_
  refine sx_guardT rfl rfl rfl ?_
  refine sp rfl (px_load rfl (f7.load1 (at_int (by omega)) Tryd.isAgg3)) ?_
  refine sx_guardT rfl rfl rfl ?_
  refine sp rfl (px_eq rfl rfl) ?_
  refine sp rfl (px_pick rfl rfl) ?_
  refine wl_nil (q_n (k6 _ _ ?_))
  refine sx_condP rfl (fun h17x1 => ?_) (fun h17x1 => ?_)
  ·
   refine sx_skip ?_
   refine q_n (k5 _ _ ?_)
   refine sx_block ?_
   refine sx_region ?_
   refine mv rfl rfl (sp rfl (px_sub rfl rfl (by omega)) ?_)
   refine av rfl rfl (wl_nil ?_)
   exact q_bn (fun a ha => ⟨_, by omega, (k - 1), ha.sub (Sub.c 0 rfl (.c 3 (look_int (t := 3) rfl (by first | omega | simp)) .nil)), cwl4, rfl, by omega, trim_step (by omega) hk (by rw [getD_take (by omega)]; exact h17x1) hv⟩)
  refine sx_exit ?_
  refine q_e (q_e (q_bx (q_n (k3 _ _ ?_))))
  refine sx_seq fun K8 k8 => sx_region ?_
  refine mv rfl rfl (mv rfl rfl (sp rfl (px_sliceTo (h := k) rfl rfl (by omega) Tryd.underlying22 Tryd.sizeOf3 f7 (by omega)) ?_))
  refine av rfl rfl (wl_nil (q_n (k8 _ _ ?_)))
  refine sx_sub (Sub.c 2 rfl .nil) ?_
  refine sx_retc ?_
  refine sx_ret1 Tryd.results125 rfl ?_
  have hd := trim_done hz hk hv (by first | exact .inl (by omega) | exact .inr (by rw [getD_take (by omega)]; assumption))
  rw [← hd]
  exact ⟨_, rfl, (Sv.takeI f7 (h := k) (by omega)), cwl4⟩
 refine sx_guardF rfl rfl rfl rfl rfl rfl ?_
 refine sx_guardF rfl rfl rfl rfl rfl rfl ?_
 refine sx_guardF rfl rfl rfl rfl rfl rfl ?_
 refine sx_guardF rfl rfl rfl rfl rfl rfl ?_
 refine sx_guardF rfl rfl rfl rfl rfl rfl ?_
 refine sx_guardF rfl rfl rfl rfl rfl rfl ?_
 refine sp rfl (px_pick rfl rfl) ?_
 refine wl_nil (q_n (k6 _ _ ?_))
 refine sx_condF rfl ?_
 refine sx_exit ?_
 refine q_e (q_e (q_bx (q_n (k3 _ _ ?_))))
 refine sx_seq fun K9 k9 => sx_region ?_
 refine mv rfl rfl (mv rfl rfl ?_)
 have f10 := hva.ext cwl4
 refine sp rfl (px_sliceTo (h := k) rfl rfl (by omega) Tryd.underlying22 Tryd.sizeOf3 f10 (by omega)) ?_
 refine av rfl rfl (wl_nil (q_n (k9 _ _ ?_)))
 refine sx_sub (Sub.c 2 rfl .nil) ?_
 refine sx_retc ?_
 refine sx_ret1 Tryd.results125 rfl ?_
 have hd := trim_done hz hk hv (by first | exact .inl (by omega) | exact .inr (by rw [getD_take (by omega)]; assumption))
 rw [← hd]
 exact ⟨_, rfl, (Sv.takeI f10 (h := k) (by omega)), cwl4⟩

theorem c_l02TrimD {w : World} {va : Value} {lva uva : Nat} {m : Nat} (hva : Sl w lva uva va (dg m)) (h63 : (dg m).length ≤ 1000000) :
  Ret Tryd.prog 125 [va] w fun v w' => ∃ s, v = s ∧ Sl w' (lva) (uva) s (dg m) ∧ Chg 0 0 w w' := by
 simpa only [vl_dg] using c_l02TrimS hva (Lm_dg m) h63

theorem c_l02Cap {w : World} {va : Value} {lva uva : Nat} {m : Nat} (hva : Sl w lva uva va (dg m)) (h63 : (dg m).length ≤ 1000000) :
  Ret Tryd.prog 124 [va] w fun v w' => ∃ s, v = s ∧ Sl w' (lva) (uva) s (dg (capN m)) ∧ Chg 0 0 w w' := by
 refine sx_enter Tryd.func124 rfl Tryd.ntmps124 (nbl rfl) ?_
 refine sx_seq fun K1 k1 => sx_region ?_
 refine av rfl rfl (wl_nil (q_n (k1 _ _ ?_)))
 refine sx_seq fun K2 k2 => sx_region ?_
 refine mv rfl rfl (sx_call rfl rfl Tryd.call125 (c_l02TrimD hva (by omega)) (fun v3 w3 p3 => ?_))
 obtain ⟨s3, rfl, os_3, c3⟩ := p3
 have zw3 := c3.size
 refine av rfl rfl (wl_nil (q_n (k2 _ _ ?_)))
 refine sx_seq fun K4 k4 => ?_
 refine sx_seq fun K5 k5 => sx_region ?_
 refine mv rfl rfl (sp rfl (px_len rfl Tryd.underlying22 os_3) ?_)
 refine sp rfl (px_gt rfl rfl) ?_
 refine wl_nil (q_n (k5 _ _ ?_))
 refine sx_condP rfl (fun h25 => ?_) (fun h25 => ?_)
 ·
  refine sx_seq fun K6 k6 => sx_region ?_
  refine av rfl rfl (wl_nil (q_n (k6 _ _ ?_)))
  refine sx_retc ?_
  refine q_r (sx_ret1 Tryd.results124 rfl ?_)
  rw [capN_no (by omega), dg_zero]
  exact ⟨_, rfl, Sv.nil _ _ _ _, c3⟩
 refine sx_skip ?_
 refine q_n (k4 _ _ ?_)
 refine sx_seq fun K7 k7 => sx_region ?_
 refine mv rfl rfl (av rfl rfl (wl_nil (q_n (k7 _ _ ?_))))
 refine sx_retc ?_
 refine sx_ret1 Tryd.results124 rfl ?_
 rw [capN_ok (by omega)]
 exact ⟨_, rfl, (Sv.mono os_3 (by omega) (by omega)), c3⟩

theorem c_l04Make {w : World} {n : Bool} {va : Value} {lva uva : Nat} {m : Nat} (hva : Sl w lva uva va (dg m)) (h63 : (dg m).length ≤ 1000000) :
  Ret Tryd.prog 108 [.bool n, va] w fun v w' => ∃ s, v = .agg #[.bool (ng (capI n m)), s] ∧ OwnI w' w.heap.size w'.heap.size s intT (dg (capI n m).natAbs) ∧ Chg 0 0 w w' := by
 have hva0 := hva.fit
 have hcap : (dg (capN m)).length ≤ 50 := by unfold capN; split; assumption; rw [dg_zero]; simp
 refine sx_enter Tryd.func108 rfl Tryd.ntmps108 (nbl rfl) ?_
 refine sx_seq fun K1 k1 => sx_region ?_
 refine sx_alloc [.bool false, (.slice none 0 0)] rfl Tryd.zeroValue29 rfl (fun b2 w3 eb2 sb2 fb2 cb2 => ?_)
 have zw3 := cb2.size
 refine wl_nil (q_n (k1 _ _ ?_))
 refine sx_seq fun K4 k4 => sx_region ?_
 refine mv rfl rfl ?_
 have f5 := hva0.ext cb2
 refine sx_call rfl rfl Tryd.call124 (c_l02Cap f5 (by omega)) (fun v6 w6 p6 => ?_)
 obtain ⟨s6, rfl, os_6, c6⟩ := p6
 have zw6 := c6.size
 refine av rfl rfl (wl_nil (q_n (k4 _ _ ?_)))
 refine sx_seq fun K7 k7 => sx_region ?_
 refine mv rfl rfl (mv rfl rfl ?_)
 refine sx_tmpB (t := 9) rfl (fun h10 => ?_) (fun h10 => ?_)
 ·
  refine sx_guardT rfl rfl rfl ?_
  refine mv rfl rfl ?_
  refine sx_guardT rfl rfl rfl ?_
  refine sp rfl (px_len rfl Tryd.underlying22 os_6) ?_
  refine sx_guardT rfl rfl rfl ?_
  refine sp rfl (px_gt rfl rfl) ?_
  refine sp rfl (px_pick rfl rfl) ?_
  refine sx_lit0 rfl xelt22 (fun s8 ws8 ss8 fs8 cs8 => ?_)
  have zws8 := cs8.size
  refine mv rfl rfl ?_
  have f10 := os_6.ext cs8
  refine sx_append rfl xelt22 rfl rfl fs8 f10 one_int (by omega) (by first | omega | (simp only [List.length_nil]; omega)) (by unfold maxLen; first | omega | (simp only [List.length_nil]; omega)) (fun a9 w9 fw9 cw9 => ?_)
  have nw9 := Own.norm (f := (Value.int .i64)) (zs := dg (capN m)) fw9
  have zw9 := cw9.size
  refine sp rfl (px_build rfl (xbld29x0x1 rfl nw9.one _)) ?_
  have f13 := (fb2.ext c6).ext cs8
  have f14 := f13.chg cw9 (by omega)
  refine sx_store (vs := [.bool (decide ((0 : Int) < ↑((dg (capN m)).length))), a9]) rfl rfl f14 rfl Tryd.sizeOf29 (nbl rfl) (one_cons rfl (one_cons nw9.one one_nil)) (fun w11 sw11 fw11 cw11 => ?_)
  have zw11 := cw11.size
  have gw11 : Blk w11 b2 [.bool (decide ((0 : Int) < ↑((dg (capN m)).length))), a9] 29 := fw11
  refine wl_nil (q_n (k7 _ _ ?_))
  refine sx_sub (Sub.c 4 rfl .nil) ?_
  refine sx_retc ?_
  refine sx_ret1 Tryd.results108 ⟨_, rfl, gw11.loadA (vs := [.bool (decide ((0 : Int) < ↑((dg (capN m)).length))), a9]) (look_lit rfl) Tryd.isAgg29 Tryd.sizeOf29⟩ ?_
  have hh := cap_sg n m
  rw [← hh.1, ← hh.2]
  have q15 := Chg.step (l := 0) (h := 0) (Chg.zero (l := 0) (h := 0) ((cb2.t c6).t cs8)) cw9 (by omega)
  have q16 := Chg.step (l := 0) (h := 0) q15 cw11 (by omega)
  have f17 := nw9.chg cw11 (by omega)
  exact ⟨_, by simp [nz, h10], (Own.mono f17 (by omega) (by omega)), q16⟩
 refine sx_guardF rfl rfl rfl rfl rfl rfl ?_
 refine sx_guardF rfl rfl rfl rfl rfl rfl ?_
 refine sx_guardF rfl rfl rfl rfl rfl rfl ?_
 refine sp rfl (px_pick rfl rfl) ?_
 refine sx_lit0 rfl xelt22 (fun s18 ws18 ss18 fs18 cs18 => ?_)
 have zws18 := cs18.size
 refine mv rfl rfl ?_
 have f20 := os_6.ext cs18
 refine sx_append rfl xelt22 rfl rfl fs18 f20 one_int (by omega) (by first | omega | (simp only [List.length_nil]; omega)) (by unfold maxLen; first | omega | (simp only [List.length_nil]; omega)) (fun a19 w19 fw19 cw19 => ?_)
 have nw19 := Own.norm (f := (Value.int .i64)) (zs := dg (capN m)) fw19
 have zw19 := cw19.size
 refine sp rfl (px_build rfl (xbld29x0x1 rfl nw19.one _)) ?_
 have f23 := (fb2.ext c6).ext cs18
 have f24 := f23.chg cw19 (by omega)
 refine sx_store (vs := [.bool false, a19]) rfl rfl f24 rfl Tryd.sizeOf29 (nbl rfl) (one_cons rfl (one_cons nw19.one one_nil)) (fun w21 sw21 fw21 cw21 => ?_)
 have zw21 := cw21.size
 have gw21 : Blk w21 b2 [.bool false, a19] 29 := fw21
 refine wl_nil (q_n (k7 _ _ ?_))
 refine sx_sub (Sub.c 4 rfl .nil) ?_
 refine sx_retc ?_
 refine sx_ret1 Tryd.results108 ⟨_, rfl, gw21.loadA (vs := [.bool false, a19]) (look_lit rfl) Tryd.isAgg29 Tryd.sizeOf29⟩ ?_
 have hh := cap_sg n m
 rw [← hh.1, ← hh.2]
 have q25 := Chg.step (l := 0) (h := 0) (Chg.zero (l := 0) (h := 0) ((cb2.t c6).t cs18)) cw19 (by omega)
 have q26 := Chg.step (l := 0) (h := 0) q25 cw21 (by omega)
 have f27 := nw19.chg cw21 (by omega)
 exact ⟨_, by simp [nz, h10], (Own.mono f27 (by omega) (by omega)), q26⟩

theorem c_l04MakeMin {w : World} {n : Bool} {va : Value} {lva uva : Nat} {zs : List Int} (hva : Sl w lva uva va (zs)) (hz : zs = dg (-9223372036854775808 : Int).natAbs) :
  Ret Tryd.prog 108 [.bool n, va] w fun v w' => ∃ s, v = .agg #[.bool (ng (capI n (-9223372036854775808 : Int).natAbs)), s] ∧ OwnI w' w.heap.size w'.heap.size s intT (dg (capI n (-9223372036854775808 : Int).natAbs).natAbs) ∧ Chg 0 0 w w' := by
 subst hz; exact c_l04Make hva (by rw [dg_min]; simp)

theorem c_l02Cmp {w : World} {va : Value} {lva uva : Nat} {zs : List Int} {vb : Value} {lvb uvb : Nat} {ys : List Int} (hva : Sl w lva uva va (zs)) (hvb : Sl w lvb uvb vb (ys)) (h63 : zs.length ≤ 4611686018427387904 ∧ ys.length ≤ 4611686018427387904) :
  Ret Tryd.prog 115 [va, vb] w fun v w' => v = .int .i64 (cmpL zs ys) ∧ Chg 0 0 w w' := by
 have hva0 := hva.fit
 have hvb0 := hvb.fit
 have zs0 : zs.drop zs.length = [] := by simp
 have ys0 : ys.drop ys.length = [] := by simp
 refine sx_enter Tryd.func115 rfl Tryd.ntmps115 (nbl rfl) ?_
 refine sx_seq fun K1 k1 => sx_region ?_
 refine av rfl rfl (wl_nil (q_n (k1 _ _ ?_)))
 refine sx_seq fun K2 k2 => ?_
 refine sx_seq fun K3 k3 => sx_region ?_
 refine mv rfl rfl (sp rfl (px_len rfl Tryd.underlying22 hva0) ?_)
 refine mv rfl rfl (sp rfl (px_len rfl Tryd.underlying22 hvb0) ?_)
 refine sp rfl (px_ne rfl rfl) ?_
 refine wl_nil (q_n (k3 _ _ ?_))
 refine sx_condP rfl (fun h54 => ?_) (fun h54 => ?_)
 ·
  refine sx_seq fun K4 k4 => ?_
  refine sx_seq fun K5 k5 => sx_region ?_
  refine mv rfl rfl (sp rfl (px_len rfl Tryd.underlying22 hva0) ?_)
  refine mv rfl rfl (sp rfl (px_len rfl Tryd.underlying22 hvb0) ?_)
  refine sp rfl (px_lt rfl rfl) ?_
  refine wl_nil (q_n (k5 _ _ ?_))
  refine sx_condP rfl (fun h55 => ?_) (fun h55 => ?_)
  ·
   refine sx_seq fun K6 k6 => sx_region ?_
   refine av rfl rfl (wl_nil (q_n (k6 _ _ ?_)))
   refine sx_retc ?_
   refine q_r (q_r (sx_ret1 Tryd.results115 rfl ?_))
   exact ⟨iEq (cmpL_short (by omega)).symm, (Chg.refl 0 0 _)⟩
  refine sx_skip ?_
  refine q_n (k4 _ _ ?_)
  refine sx_seq fun K7 k7 => sx_region ?_
  refine av rfl rfl (wl_nil (q_n (k7 _ _ ?_)))
  refine sx_retc ?_
  refine q_r (sx_ret1 Tryd.results115 rfl ?_)
  exact ⟨iEq (cmpL_long (by omega)).symm, (Chg.refl 0 0 _)⟩
 refine sx_skip ?_
 refine q_n (k2 _ _ ?_)
 refine sx_seq fun K8 k8 => ?_
 refine sx_seq fun K9 k9 => sx_region ?_
 refine mv rfl rfl (sp rfl (px_len rfl Tryd.underlying22 hva0) ?_)
 refine sp rfl (px_sub rfl rfl (by omega)) ?_
 refine av rfl rfl (wl_nil (q_n (k9 _ _ ?_)))
 refine sx_block ?_
 have e00 : zs.length = ys.length := by omega
 have he0 : zs.drop zs.length = ys.drop zs.length := by rw [zs0, e00, ys0]
 refine sx_loop (fun mm aa w' => ∃ (k : Nat), Agr 41 [(0, va), (1, vb), (5, .int .i64 (↑k - 1))] aa ∧ Chg 0 0 w w' ∧ (mm = k) ∧ (k ≤ zs.length) ∧ (zs.drop k = ys.drop k)) (_) (fun a ha => ⟨zs.length, ha.sub (Sub.c 0 rfl (.c 1 rfl (.c 5 (look_int (t := 5) rfl (by first | omega | simp)) .nil))), Chg.refl _ _ _, rfl, by omega, he0⟩) ?_
 rintro mm aa wl10 ⟨k, hAwl10, cwl10, hm, hk, he⟩
 refine (show cw Tryd.prog 41 _ _ _ wl10 from ?_) aa hAwl10
 clear hAwl10
 have zwl10 := cwl10.size
 have hl : zs.length = ys.length := by omega
 refine sx_seq fun K11 k11 => ?_
 refine sx_seq fun K12 k12 => sx_region ?_
 refine mv rfl rfl (sp rfl (px_ge rfl rfl) ?_)
 refine wl_nil (q_n (k12 _ _ ?_))
 refine sx_condP rfl (fun h60 => ?_) (fun h60 => ?_)
 ·
  refine sx_skip ?_
  refine q_n (k11 _ _ ?_)
  refine sx_seq fun K13 k13 => ?_
  refine sx_block ?_
  refine sx_seq fun K14 k14 => ?_
  refine sx_seq fun K15 k15 => ?_
  have f16 := hva0.ext cwl10
  have f17 := hvb0.ext cwl10
  refine dx_region (fun w' => Chg 0 0 wl10 w') (by kernel_rfl) (Chg.zero (Chg.drew _)) ?_
  have d18 := Chg.drew wl10
  have s18 : Chg 0 0 wl10 (World.drew wl10) := Chg.zero (Chg.drew _)
  have y18 : (World.drew wl10).heap.size = wl10.heap.size := rfl
  generalize World.drew wl10 = w18 at *
  have zw18 := d18.size
  refine dt 0 rfl rfl rfl rfl s18 (fun _ hS => px_move rfl) ?_
  refine dt 1 rfl rfl rfl rfl s18 (fun _ hS => px_move rfl) ?_
  refine dt 2 rfl rfl rfl rfl s18 (fun _ hS => px_index1 (j := (k - 1)) rfl rfl (by omega) Tryd.underlying22 Tryd.sizeOf3 ((f16).chg hS (by omega)) (by omega)) ?_
  refine dt 3 rfl rfl rfl rfl s18 (fun _ hS => px_load rfl (((f16).chg hS (by omega)).load1 (at_int (by omega)) Tryd.isAgg3)) ?_
  refine dt 4 rfl rfl rfl rfl s18 (fun _ hS => px_move rfl) ?_
  refine dt 5 rfl rfl rfl rfl s18 (fun _ hS => px_move rfl) ?_
  refine dt 6 rfl rfl rfl rfl s18 (fun _ hS => px_index1 (j := (k - 1)) rfl rfl (by omega) Tryd.underlying22 Tryd.sizeOf3 ((f17).chg hS (by omega)) (by omega)) ?_
  refine dt 7 rfl rfl rfl rfl s18 (fun _ hS => px_load rfl (((f17).chg hS (by omega)).load1 (at_int (by omega)) Tryd.isAgg3)) ?_
  refine dt 8 rfl rfl rfl rfl s18 (fun _ hS => px_lt rfl rfl) ?_
  refine dx_done (by kernel_rfl) ?_
  refine q_n (k15 _ _ ?_)
  refine sx_condP rfl (fun h61 => ?_) (fun h61 => ?_)
  ·
   refine sx_seq fun K19 k19 => sx_region ?_
   refine av rfl rfl (wl_nil (q_n (k19 _ _ ?_)))
   refine sx_sub (Sub.c 0 rfl (.c 1 rfl (.c 4 rfl (.c 5 rfl .nil)))) ?_
   refine sx_retc ?_
   refine q_r (q_br (q_r (q_r (q_br (q_r (sx_ret1 Tryd.results115 rfl ?_))))))
   have hlt := cmpL_lt hl (k := k - 1) (by omega) (by rw [Nat.sub_add_cancel (by omega)]; exact he) (h61)
   exact ⟨iEq hlt.symm, (cwl10.t d18)⟩
  refine sx_skip ?_
  refine q_n (k14 _ _ ?_)
  refine sx_seq fun K20 k20 => ?_
  have f21 := f16.ext d18
  have f22 := f17.ext d18
  refine dx_region (fun w' => Chg 0 0 w18 w') (by kernel_rfl) (Chg.zero (Chg.drew _)) ?_
  have d23 := Chg.drew w18
  have s23 : Chg 0 0 w18 (World.drew w18) := Chg.zero (Chg.drew _)
  have y23 : (World.drew w18).heap.size = w18.heap.size := rfl
  generalize World.drew w18 = w23 at *
  have zw23 := d23.size
  refine dt 0 rfl rfl rfl rfl s23 (fun _ hS => px_move rfl) ?_
  refine dt 1 rfl rfl rfl rfl s23 (fun _ hS => px_move rfl) ?_
  refine dt 2 rfl rfl rfl rfl s23 (fun _ hS => px_index1 (j := (k - 1)) rfl rfl (by omega) Tryd.underlying22 Tryd.sizeOf3 ((f21).chg hS (by omega)) (by omega)) ?_
  refine dt 3 rfl rfl rfl rfl s23 (fun _ hS => px_load rfl (((f21).chg hS (by omega)).load1 (at_int (by omega)) Tryd.isAgg3)) ?_
  refine dt 4 rfl rfl rfl rfl s23 (fun _ hS => px_move rfl) ?_
  refine dt 5 rfl rfl rfl rfl s23 (fun _ hS => px_move rfl) ?_
  refine dt 6 rfl rfl rfl rfl s23 (fun _ hS => px_index1 (j := (k - 1)) rfl rfl (by omega) Tryd.underlying22 Tryd.sizeOf3 ((f22).chg hS (by omega)) (by omega)) ?_
  refine dt 7 rfl rfl rfl rfl s23 (fun _ hS => px_load rfl (((f22).chg hS (by omega)).load1 (at_int (by omega)) Tryd.isAgg3)) ?_
  refine dt 8 rfl rfl rfl rfl s23 (fun _ hS => px_gt rfl rfl) ?_
  refine dx_done (by kernel_rfl) ?_
  refine q_n (k20 _ _ ?_)
  refine sx_sub (Sub.c 0 rfl (.c 1 rfl (.c 5 rfl (.c 40 rfl .nil)))) ?_
  refine sx_condP rfl (fun h64 => ?_) (fun h64 => ?_)
  ·
   refine sx_seq fun K24 k24 => sx_region ?_
   refine av rfl rfl (wl_nil (q_n (k24 _ _ ?_)))
   refine sx_retc ?_
   refine q_br (q_r (q_r (q_br (q_r (sx_ret1 Tryd.results115 rfl ?_)))))
   have hlt := cmpL_gt hl (k := k - 1) (by omega) (by rw [Nat.sub_add_cancel (by omega)]; exact he) (h64)
   exact ⟨iEq hlt.symm, ((cwl10.t d18).t d23)⟩
  refine sx_skip ?_
  refine q_bn (q_n (k13 _ _ ?_))
  refine sx_region ?_
  refine mv rfl rfl (sp rfl (px_sub rfl rfl (by omega)) ?_)
  refine av rfl rfl (wl_nil ?_)
  exact fun a ha => ⟨_, by omega, (k - 1), ha.sub (Sub.c 0 rfl (.c 1 rfl (.c 5 (look_int (t := 5) rfl (by first | omega | simp)) .nil))), ((cwl10.t d18).t d23), rfl, by omega, drop_succ_eq (by omega) (by omega) (by rw [Nat.sub_add_cancel (by omega)]; exact he) (by omega)⟩
 refine sx_exit ?_
 refine q_e (q_e (q_bx (q_n (k8 _ _ ?_))))
 refine sx_seq fun K25 k25 => sx_region ?_
 refine av rfl rfl (wl_nil (q_n (k25 _ _ ?_)))
 refine sx_retc ?_
 refine sx_ret1 Tryd.results115 rfl ?_
 have e1 : k = 0 := by omega
 subst e1
 have e2 : zs = ys := by simpa using he
 subst e2
 exact ⟨iEq (cmpL_self zs).symm, cwl10⟩

theorem c_l02Sub {w : World} {va : Value} {lva uva : Nat} {m : Nat} {vb : Value} {lvb uvb : Nat} {n : Nat} (hva : Sl w lva uva va (dg m)) (hvb : Sl w lvb uvb vb (dg n)) (hbm : (dg m).length ≤ 1000) (hbn : (dg n).length ≤ 1000) (hle : n ≤ m) :
  Ret Tryd.prog 128 [va, vb] w fun v w' => ∃ s, v = s ∧ Sl w' (w.heap.size) (w'.heap.size) s (dg (m - n)) ∧ Chg 0 0 w w' := by
 have hva0 := hva.fit
 have hvb0 := hvb.fit
 refine sx_enter Tryd.func128 rfl Tryd.ntmps128 (nbl rfl) ?_
 refine sx_seq fun K1 k1 => sx_region ?_
 refine av rfl rfl (wl_nil (q_n (k1 _ _ ?_)))
 refine sx_seq fun K2 k2 => sx_region ?_
 refine sx_lit0 rfl xelt22 (fun s3 ws3 ss3 fs3 cs3 => ?_)
 have zws3 := cs3.size
 refine av rfl rfl (wl_nil (q_n (k2 _ _ ?_)))
 refine sx_seq fun K4 k4 => sx_region ?_
 refine av rfl rfl (wl_nil (q_n (k4 _ _ ?_)))
 refine sx_seq fun K5 k5 => ?_
 refine sx_seq fun K6 k6 => sx_region ?_
 refine mv rfl rfl ?_
 have f7 := hva0.ext cs3
 refine sp rfl (px_len rfl Tryd.underlying22 f7) ?_
 refine mv rfl rfl (wl_nil (q_n (k6 _ _ ?_)))
 refine sx_block ?_
 refine sx_loop (fun mm aa w' => ∃ (k : Nat) (s : Value) (os : List Int) (c : Nat), Agr 42 [(0, va), (1, vb), (5, s), (6, .int .i64 ((c : Nat) : Int)), (11, .int .i64 (↑(dg m).length)), (12, .int .i64 ↑k)] aa ∧ Chg w.heap.size ws3.heap.size ws3 w' ∧ Own w' w.heap.size w'.heap.size s intT os.length 1 (os.map (Value.int .i64)) ∧ (mm = (dg m).length - k) ∧ (os.length = k) ∧ (Lm os) ∧ (c ≤ 1) ∧ (k ≤ (dg m).length) ∧ (vl ((dg m).take k) + Bs ^ k * c = vl (os) + vl ((dg n).take k))) (_) (fun a ha => ⟨0, s3, [], 0, ha.sub (Sub.c 0 rfl (.c 1 rfl (.c 5 rfl (.c 6 (look_int (t := 6) rfl (by first | omega | simp)) (.c 11 (look_int (t := 11) rfl (by first | omega | simp)) (.c 12 (look_int (t := 12) rfl (by first | omega | simp)) .nil)))))), Chg.refl _ _ _, (fs3.mono (by omega) (by omega)), rfl, by simp, Lm.nil, by omega, by omega, by simp [vl]⟩) ?_
 rintro mm aa wl8 ⟨k, s, os, c, hAwl8, cwl8, hs_s, hm, hos, hlm, hc, hk, hv⟩
 refine (show cw Tryd.prog 42 _ _ _ wl8 from ?_) aa hAwl8
 clear hAwl8
 have zwl8 := cwl8.size
 have am := (Lm_dg m).getD k
 have bn := (Lm_dg n).getD k
 refine sx_seq fun K9 k9 => sx_region ?_
 refine sp rfl (px_lt rfl rfl) ?_
 refine wl_nil (q_n (k9 _ _ ?_))
 refine sx_seq fun K10 k10 => ?_
 refine sx_condP rfl (fun h107 => ?_) (fun h107 => ?_)
 ·
  refine sx_skip ?_
  refine q_n (k10 _ _ ?_)
  refine sx_seq fun K11 k11 => ?_
  refine sx_block ?_
  refine sx_seq fun K12 k12 => sx_region ?_
  refine mv rfl rfl (av rfl rfl (wl_nil (q_n (k12 _ _ ?_))))
  refine sx_seq fun K13 k13 => sx_region ?_
  refine mv rfl rfl (mv rfl rfl ?_)
  have f14 := f7.chg cwl8 (by omega)
  refine sp rfl (px_index1 (j := k) rfl rfl (by omega) Tryd.underlying22 Tryd.sizeOf3 f14 (by omega)) ?_
  refine sp rfl (px_load rfl (f14.load1 (at_int (by omega)) Tryd.isAgg3)) ?_
  refine mv rfl rfl (sp rfl (px_sub rfl rfl (by omega)) ?_)
  refine av rfl rfl (wl_nil (q_n (k13 _ _ ?_)))
  refine sx_sub (Sub.c 0 rfl (.c 1 rfl (.c 5 rfl (.c 6 rfl (.c 7 rfl (.c 8 rfl (.c 11 rfl (.c 12 rfl .nil)))))))) ?_
  refine sx_seq fun K15 k15 => ?_
  refine sx_seq fun K16 k16 => sx_region ?_
  refine mv rfl rfl (mv rfl rfl ?_)
  have f17 := hvb0.ext cs3
  have f18 := f17.chg cwl8 (by omega)
  refine sp rfl (px_len rfl Tryd.underlying22 f18) ?_
  refine sp rfl (px_lt rfl rfl) ?_
  refine wl_nil (q_n (k16 _ _ ?_))
  refine sx_condP rfl (fun h109 => ?_) (fun h109 => ?_)
  ·
   refine sx_region ?_
   refine mv rfl rfl (mv rfl rfl (mv rfl rfl (sp rfl (px_index1 (j := k) rfl rfl (by omega) Tryd.underlying22 Tryd.sizeOf3 f18 (by omega)) ?_)))
   refine sp rfl (px_load rfl (f18.load1 (at_int (by omega)) Tryd.isAgg3)) ?_
   refine sp rfl (px_sub rfl rfl (by omega)) ?_
   refine av rfl rfl (wl_nil (q_n (k15 _ _ ?_)))
   refine sx_sub (Sub.c 0 rfl (.c 1 rfl (.c 5 rfl (.c 6 rfl (.c 8 rfl (.c 11 rfl (.c 12 rfl .nil))))))) ?_
   refine sx_seq fun K19 k19 => sx_region ?_
   refine av rfl rfl (wl_nil (q_n (k19 _ _ ?_)))
   refine sx_seq fun K20 k20 => ?_
   refine sx_seq fun K21 k21 => sx_region ?_
   refine mv rfl rfl (sp rfl (px_lt rfl rfl) ?_)
   refine wl_nil (q_n (k21 _ _ ?_))
   refine sx_condP rfl (fun h113 => ?_) (fun h113 => ?_)
   ·
    refine sx_seq fun K22 k22 => sx_region ?_
    refine mv rfl rfl (sp rfl (px_add rfl rfl (by omega)) ?_)
    refine av rfl rfl (wl_nil (q_n (k22 _ _ ?_)))
    refine sx_region ?_
    refine av rfl rfl (wl_nil (q_n (k20 _ _ ?_)))
    refine sx_region ?_
    refine mv rfl rfl (mv rfl rfl ?_)
    refine sx_lit1 rfl xelt22 rfl rfl (fun s23 ws23 ss23 fs23 cs23 => ?_)
    have ns23 := Own.norm (f := (Value.int .i64)) (zs := [((((dg m).getD k 0) - ((c : Nat) : Int)) - ((dg n).getD k 0)) + 1000000000]) fs23
    have zws23 := cs23.size
    have f25 := hs_s.ext cs23
    refine sx_append rfl xelt22 rfl rfl f25 ns23.sv one_int (by omega) (by simp only [List.length_cons, List.length_nil]; omega) (by unfold maxLen; simp only [List.length_cons, List.length_nil]; omega) (fun a24 w24 fw24 cw24 => ?_)
    have nw24 := Own.app (f := (Value.int .i64)) (a := os) (b := [((((dg m).getD k 0) - ((c : Nat) : Int)) - ((dg n).getD k 0)) + 1000000000]) fw24
    have zw24 := cw24.size
    refine av rfl rfl (wl_nil ?_)
    refine q_bn (q_n (k11 _ _ ?_))
    refine sx_sub (Sub.c 0 rfl (.c 1 rfl (.c 5 rfl (.c 6 rfl (.c 11 rfl (.c 12 rfl .nil)))))) ?_
    refine sx_region ?_
    refine sp rfl (px_add rfl rfl (by omega)) ?_
    refine mv rfl rfl (wl_nil ?_)
    have q26 := Chg.step (l := w.heap.size) (h := ws3.heap.size) cwl8 cs23 (by omega)
    have q27 := Chg.step (l := w.heap.size) (h := ws3.heap.size) q26 cw24 (by omega)
    have hs : ((dg m).getD k 0).toNat + Bs * 1 = ((dg n).getD k 0).toNat + c + ((((((dg m).getD k 0) - ((c : Nat) : Int)) - ((dg n).getD k 0)) + 1000000000) : Int).toNat := by simp only [Bs]; omega
    have hv2 : vl ((dg m).take (k + 1)) + Bs ^ (k + 1) * 1 = vl (os ++ [(((((dg m).getD k 0) - ((c : Nat) : Int)) - ((dg n).getD k 0)) + 1000000000)]) + vl ((dg n).take (k + 1)) := by
     rw [vl_concat, hos, vl_take_succ', vl_take_succ', Nat.pow_succ]
     exact sub_step hs hv
    exact fun a ha => ⟨_, by omega, (k + 1), a24, (os ++ ([((((dg m).getD k 0) - ((c : Nat) : Int)) - ((dg n).getD k 0)) + 1000000000])), 1, ha.sub (Sub.c 0 rfl (.c 1 rfl (.c 5 rfl (.c 6 (look_int (t := 6) rfl (by first | omega | simp)) (.c 11 rfl (.c 12 (look_int (t := 12) rfl (by first | omega | simp)) .nil)))))), q27, (nw24.mono (by omega) (by omega)), rfl, by simp [hos], hlm.append (Lm.single (by omega) (by omega)), by omega, by omega, hv2⟩
   refine sx_skip ?_
   refine q_n (k20 _ _ ?_)
   refine sx_region ?_
   refine mv rfl rfl (mv rfl rfl ?_)
   refine sx_lit1 rfl xelt22 rfl rfl (fun s28 ws28 ss28 fs28 cs28 => ?_)
   have ns28 := Own.norm (f := (Value.int .i64)) (zs := [(((dg m).getD k 0) - ((c : Nat) : Int)) - ((dg n).getD k 0)]) fs28
   have zws28 := cs28.size
   have f30 := hs_s.ext cs28
   refine sx_append rfl xelt22 rfl rfl f30 ns28.sv one_int (by omega) (by simp only [List.length_cons, List.length_nil]; omega) (by unfold maxLen; simp only [List.length_cons, List.length_nil]; omega) (fun a29 w29 fw29 cw29 => ?_)
   have nw29 := Own.app (f := (Value.int .i64)) (a := os) (b := [(((dg m).getD k 0) - ((c : Nat) : Int)) - ((dg n).getD k 0)]) fw29
   have zw29 := cw29.size
   refine av rfl rfl (wl_nil ?_)
   refine q_bn (q_n (k11 _ _ ?_))
   refine sx_region ?_
   refine sp rfl (px_add rfl rfl (by omega)) ?_
   refine mv rfl rfl (wl_nil ?_)
   have q31 := Chg.step (l := w.heap.size) (h := ws3.heap.size) cwl8 cs28 (by omega)
   have q32 := Chg.step (l := w.heap.size) (h := ws3.heap.size) q31 cw29 (by omega)
   have hs : ((dg m).getD k 0).toNat + Bs * 0 = ((dg n).getD k 0).toNat + c + (((((dg m).getD k 0) - ((c : Nat) : Int)) - ((dg n).getD k 0)) : Int).toNat := by simp only [Bs]; omega
   have hv2 : vl ((dg m).take (k + 1)) + Bs ^ (k + 1) * 0 = vl (os ++ [((((dg m).getD k 0) - ((c : Nat) : Int)) - ((dg n).getD k 0))]) + vl ((dg n).take (k + 1)) := by
    rw [vl_concat, hos, vl_take_succ', vl_take_succ', Nat.pow_succ]
    exact sub_step hs hv
   exact fun a ha => ⟨_, by omega, (k + 1), a29, (os ++ ([(((dg m).getD k 0) - ((c : Nat) : Int)) - ((dg n).getD k 0)])), 0, ha.sub (Sub.c 0 rfl (.c 1 rfl (.c 5 rfl (.c 6 (look_int (t := 6) rfl (by first | omega | simp)) (.c 11 rfl (.c 12 (look_int (t := 12) rfl (by first | omega | simp)) .nil)))))), q32, (nw29.mono (by omega) (by omega)), rfl, by simp [hos], hlm.append (Lm.single (by omega) (by omega)), by omega, by omega, hv2⟩
  have gn := getD_ge (zs := dg n) (k := k) (by omega)
  refine sx_skip ?_
  refine q_n (k15 _ _ ?_)
  refine sx_seq fun K33 k33 => sx_region ?_
  refine av rfl rfl (wl_nil (q_n (k33 _ _ ?_)))
  refine sx_seq fun K34 k34 => ?_
  refine sx_seq fun K35 k35 => sx_region ?_
  refine mv rfl rfl (sp rfl (px_lt rfl rfl) ?_)
  refine wl_nil (q_n (k35 _ _ ?_))
  refine sx_condP rfl (fun h113 => ?_) (fun h113 => ?_)
  ·
   refine sx_seq fun K36 k36 => sx_region ?_
   refine mv rfl rfl (sp rfl (px_add rfl rfl (by omega)) ?_)
   refine av rfl rfl (wl_nil (q_n (k36 _ _ ?_)))
   refine sx_sub (Sub.c 0 rfl (.c 1 rfl (.c 5 rfl (.c 6 rfl (.c 8 rfl (.c 11 rfl (.c 12 rfl .nil))))))) ?_
   refine sx_region ?_
   refine av rfl rfl (wl_nil (q_n (k34 _ _ ?_)))
   refine sx_region ?_
   refine mv rfl rfl (mv rfl rfl ?_)
   refine sx_lit1 rfl xelt22 rfl rfl (fun s37 ws37 ss37 fs37 cs37 => ?_)
   have ns37 := Own.norm (f := (Value.int .i64)) (zs := [(((dg m).getD k 0) - ((c : Nat) : Int)) + 1000000000]) fs37
   have zws37 := cs37.size
   have f39 := hs_s.ext cs37
   refine sx_append rfl xelt22 rfl rfl f39 ns37.sv one_int (by omega) (by simp only [List.length_cons, List.length_nil]; omega) (by unfold maxLen; simp only [List.length_cons, List.length_nil]; omega) (fun a38 w38 fw38 cw38 => ?_)
   have nw38 := Own.app (f := (Value.int .i64)) (a := os) (b := [(((dg m).getD k 0) - ((c : Nat) : Int)) + 1000000000]) fw38
   have zw38 := cw38.size
   refine av rfl rfl (wl_nil ?_)
   refine q_bn (q_n (k11 _ _ ?_))
   refine sx_region ?_
   refine sp rfl (px_add rfl rfl (by omega)) ?_
   refine mv rfl rfl (wl_nil ?_)
   have q40 := Chg.step (l := w.heap.size) (h := ws3.heap.size) cwl8 cs37 (by omega)
   have q41 := Chg.step (l := w.heap.size) (h := ws3.heap.size) q40 cw38 (by omega)
   have hs : ((dg m).getD k 0).toNat + Bs * 1 = ((dg n).getD k 0).toNat + c + (((((dg m).getD k 0) - ((c : Nat) : Int)) + 1000000000) : Int).toNat := by simp only [Bs]; omega
   have hv2 : vl ((dg m).take (k + 1)) + Bs ^ (k + 1) * 1 = vl (os ++ [((((dg m).getD k 0) - ((c : Nat) : Int)) + 1000000000)]) + vl ((dg n).take (k + 1)) := by
    rw [vl_concat, hos, vl_take_succ', vl_take_succ', Nat.pow_succ]
    exact sub_step hs hv
   exact fun a ha => ⟨_, by omega, (k + 1), a38, (os ++ ([(((dg m).getD k 0) - ((c : Nat) : Int)) + 1000000000])), 1, ha.sub (Sub.c 0 rfl (.c 1 rfl (.c 5 rfl (.c 6 (look_int (t := 6) rfl (by first | omega | simp)) (.c 11 rfl (.c 12 (look_int (t := 12) rfl (by first | omega | simp)) .nil)))))), q41, (nw38.mono (by omega) (by omega)), rfl, by simp [hos], hlm.append (Lm.single (by omega) (by omega)), by omega, by omega, hv2⟩
  refine sx_skip ?_
  refine q_n (k34 _ _ ?_)
  refine sx_region ?_
  refine mv rfl rfl (mv rfl rfl ?_)
  refine sx_lit1 rfl xelt22 rfl rfl (fun s42 ws42 ss42 fs42 cs42 => ?_)
  have ns42 := Own.norm (f := (Value.int .i64)) (zs := [((dg m).getD k 0) - ((c : Nat) : Int)]) fs42
  have zws42 := cs42.size
  have f44 := hs_s.ext cs42
  refine sx_append rfl xelt22 rfl rfl f44 ns42.sv one_int (by omega) (by simp only [List.length_cons, List.length_nil]; omega) (by unfold maxLen; simp only [List.length_cons, List.length_nil]; omega) (fun a43 w43 fw43 cw43 => ?_)
  have nw43 := Own.app (f := (Value.int .i64)) (a := os) (b := [((dg m).getD k 0) - ((c : Nat) : Int)]) fw43
  have zw43 := cw43.size
  refine av rfl rfl (wl_nil ?_)
  refine q_bn (q_n (k11 _ _ ?_))
  refine sx_sub (Sub.c 0 rfl (.c 1 rfl (.c 5 rfl (.c 6 rfl (.c 11 rfl (.c 12 rfl .nil)))))) ?_
  refine sx_region ?_
  refine sp rfl (px_add rfl rfl (by omega)) ?_
  refine mv rfl rfl (wl_nil ?_)
  have q45 := Chg.step (l := w.heap.size) (h := ws3.heap.size) cwl8 cs42 (by omega)
  have q46 := Chg.step (l := w.heap.size) (h := ws3.heap.size) q45 cw43 (by omega)
  have hs : ((dg m).getD k 0).toNat + Bs * 0 = ((dg n).getD k 0).toNat + c + ((((dg m).getD k 0) - ((c : Nat) : Int)) : Int).toNat := by simp only [Bs]; omega
  have hv2 : vl ((dg m).take (k + 1)) + Bs ^ (k + 1) * 0 = vl (os ++ [(((dg m).getD k 0) - ((c : Nat) : Int))]) + vl ((dg n).take (k + 1)) := by
   rw [vl_concat, hos, vl_take_succ', vl_take_succ', Nat.pow_succ]
   exact sub_step hs hv
  exact fun a ha => ⟨_, by omega, (k + 1), a43, (os ++ ([((dg m).getD k 0) - ((c : Nat) : Int)])), 0, ha.sub (Sub.c 0 rfl (.c 1 rfl (.c 5 rfl (.c 6 (look_int (t := 6) rfl (by first | omega | simp)) (.c 11 rfl (.c 12 (look_int (t := 12) rfl (by first | omega | simp)) .nil)))))), q46, (nw43.mono (by omega) (by omega)), rfl, by simp [hos], hlm.append (Lm.single (by omega) (by omega)), by omega, by omega, hv2⟩
 refine sx_exit ?_
 refine q_e (q_e (q_bx (q_n (k5 _ _ ?_))))
 refine sx_seq fun K47 k47 => ?_
 have ek : k = (dg m).length := by omega
 have hnm := len_le hle
 rw [ek, List.take_length, vl_dg, vl_take_ge (show (dg n).length ≤ (dg m).length from hnm), vl_dg] at hv
 have hend := sub_end hv hle (by have h9 := vl_lt hlm; rw [hos, ek] at h9; exact h9) hc
 have hvv := hend.2
 have hz := hlm
 refine sx_region ?_
 refine mv rfl rfl (sx_call rfl rfl Tryd.call125 (c_l02Trim hs_s (by assumption) (by first | omega | (simp only [List.length_append, List.length_set, List.length_replicate, List.length_cons, List.length_nil] at *; omega))) (fun v48 w48 p48 => ?_))
 obtain ⟨s48, rfl, os_48, c48⟩ := p48
 have zw48 := c48.size
 refine av rfl rfl (wl_nil (q_n (k47 _ _ ?_)))
 refine sx_retc ?_
 refine sx_ret1 Tryd.results128 rfl ?_
 have hr := Own.sv os_48
 rw [hvv] at hr
 have q49 := Chg.step (l := 0) (h := 0) (Chg.zero (l := 0) (h := 0) cs3) cwl8 (by omega)
 have q50 := Chg.step (l := 0) (h := 0) q49 c48 (by omega)
 exact ⟨_, rfl, hr.mono (by omega) (by omega), q50⟩

theorem c_l04Add {w : World} {va : Value} {lva uva : Nat} {x : Int} {vb : Value} {lvb uvb : Nat} {y : Int} (hva : Sl w lva uva va (dg x.natAbs)) (hvb : Sl w lvb uvb vb (dg y.natAbs)) (hbx : (dg x.natAbs).length ≤ 1000) (hby : (dg y.natAbs).length ≤ 1000) :
  Ret Tryd.prog 118 [.agg #[.bool (ng x), va], .agg #[.bool (ng y), vb]] w fun v w' => ∃ s, v = .agg #[.bool (ng (cap (x + y))), s] ∧ OwnI w' w.heap.size w'.heap.size s intT (dg (cap (x + y)).natAbs) ∧ Chg 0 0 w w' := by
 have hva0 := hva.fit
 have hvb0 := hvb.fit
 have l2 := len_add x.natAbs y.natAbs
 have l3 := len_le (Nat.sub_le x.natAbs y.natAbs)
 have l4 := len_le (Nat.sub_le y.natAbs x.natAbs)
 refine sx_enter Tryd.func118 rfl Tryd.ntmps118 (nbl rfl) ?_
 refine sx_seq fun K1 k1 => sx_region ?_
 refine sx_box [.bool (ng x), va] rfl rfl rfl (fun b2 w3 eb2 sb2 fb2 cb2 => ?_)
 have zw3 := cb2.size
 refine sx_box [.bool (ng y), vb] rfl rfl rfl (fun b4 w5 eb4 sb4 fb4 cb4 => ?_)
 have zw5 := cb4.size
 refine sx_alloc [.bool false, (.slice none 0 0)] rfl Tryd.zeroValue29 rfl (fun b6 w7 eb6 sb6 fb6 cb6 => ?_)
 have zw7 := cb6.size
 refine wl_nil (q_n (k1 _ _ ?_))
 refine sx_seq fun K8 k8 => ?_
 refine sx_seq fun K9 k9 => sx_region ?_
 refine sp rfl (px_field rfl xfld29x0) ?_
 have f10 := fb2.ext cb4
 have f11 := f10.ext cb6
 refine sp rfl (px_load rfl (f11.load1 rfl Tryd.isAgg4)) ?_
 refine sp rfl (px_field rfl xfld29x0) ?_
 have f12 := fb4.ext cb6
 refine sp rfl (px_load rfl (f12.load1 rfl Tryd.isAgg4)) ?_
 refine sp rfl (px_eqB Tryd.underlying4 rfl rfl) ?_
 refine wl_nil (q_n (k9 _ _ ?_))
 refine sx_condB rfl (fun h53 => ?_) (fun h53 => ?_)
 ·
  refine sx_seq fun K13 k13 => ?_
  have f14 := hva0.ext cb2
  have f15 := f14.ext cb4
  have f16 := f15.ext cb6
  have f17 := hvb0.ext cb2
  have f18 := f17.ext cb4
  have f19 := f18.ext cb6
  refine dx_region (fun w' => Chg b6 (b6 + 1) w7 w') (by kernel_rfl) (Chg.zero (Chg.drew _)) ?_
  have d20 := Chg.drew w7
  have s20 : Chg b6 (b6 + 1) w7 (World.drew w7) := Chg.zero (Chg.drew _)
  have y20 : (World.drew w7).heap.size = w7.heap.size := rfl
  generalize World.drew w7 = w20 at *
  have zw20 := d20.size
  refine dt 0 rfl rfl rfl rfl s20 (fun _ hS => px_field rfl xfld29x0) ?_
  refine dt 1 rfl rfl rfl rfl s20 (fun _ hS => px_load rfl ((f11.chg hS (by omega)).load1 rfl Tryd.isAgg4)) ?_
  refine dt 2 rfl rfl rfl rfl s20 (fun _ hS => px_field rfl xfld29x1) ?_
  refine dt 3 rfl rfl rfl rfl s20 (fun _ hS => px_load rfl ((f11.chg hS (by omega)).load1 rfl Tryd.isAgg22)) ?_
  refine dt 4 rfl rfl rfl rfl s20 (fun _ hS => px_field rfl xfld29x1) ?_
  refine dt 5 rfl rfl rfl rfl s20 (fun _ hS => px_load rfl ((f12.chg hS (by omega)).load1 rfl Tryd.isAgg22)) ?_
  refine dx_eff 6 rfl (by kernel_rfl) ?_
  have f21 := f16.ext d20
  have f22 := f19.ext d20
  refine sx_call rfl rfl Tryd.call127 (c_l02Add f21 f22 (by omega) (by omega)) (fun v23 w23 p23 => ?_)
  obtain ⟨s23, rfl, os_23, c23⟩ := p23
  have zw23 := c23.size
  have s24 : Chg b6 (b6 + 1) w7 w23 := (Chg.zero (l := b6) (h := (b6 + 1)) (d20.t c23))
  refine wl_nil ?_
  refine dx_next s24 ?_
  refine dx_eff 7 rfl (by kernel_rfl) ?_
  refine sx_call rfl rfl Tryd.call108 (c_l04Make os_23 (by omega)) (fun v25 w25 p25 => ?_)
  obtain ⟨s25, rfl, os_25, c25⟩ := p25
  have zw25 := c25.size
  have s26 : Chg b6 (b6 + 1) w7 w25 := (Chg.zero (l := b6) (h := (b6 + 1)) ((d20.t c23).t c25))
  refine wl_nil ?_
  refine dx_next s26 ?_
  refine dx_eff 8 rfl (by kernel_rfl) ?_
  have f30 := ((fb6.ext d20).ext c23).ext c25
  refine sx_store (vs := [.bool (ng (capI (ng x) (x.natAbs + y.natAbs))), s25]) rfl rfl f30 rfl Tryd.sizeOf29 (nbl rfl) (one_cons rfl (one_cons os_25.one one_nil)) (fun w27 sw27 fw27 cw27 => ?_)
  have zw27 := cw27.size
  have gw27 : Blk w27 b6 [.bool (ng (capI (ng x) (x.natAbs + y.natAbs))), s25] 29 := fw27
  have q32 := Chg.step (l := b6) (h := (b6 + 1)) (Chg.zero (l := b6) (h := (b6 + 1)) ((d20.t c23).t c25)) cw27 (by omega)
  have s31 : Chg b6 (b6 + 1) w7 w27 := q32
  refine wl_nil ?_
  refine dx_next s31 ?_
  refine dx_done (by kernel_rfl) ?_
  refine q_n (k13 _ _ ?_)
  refine sx_sub (Sub.c 2 rfl (.c 3 rfl (.c 4 rfl .nil))) ?_
  refine sx_retc ?_
  refine q_r (sx_ret1 Tryd.results118 ⟨_, rfl, gw27.loadA (vs := [.bool (ng (capI (ng x) (x.natAbs + y.natAbs))), s25]) (look_lit rfl) Tryd.isAgg29 Tryd.sizeOf29⟩ ?_)
  have hq := capI_of (add_sg h53)
  rw [← hq]
  have q33 := Chg.step (l := 0) (h := 0) (Chg.zero (l := 0) (h := 0) (((((cb2.t cb4).t cb6).t d20).t c23).t c25)) cw27 (by omega)
  have f34 := os_25.chg cw27 (by omega)
  exact ⟨_, rfl, (Own.mono f34 (by omega) (by omega)), q33⟩
 refine sx_skip ?_
 refine q_n (k8 _ _ ?_)
 refine sx_seq fun K35 k35 => ?_
 refine sx_seq fun K36 k36 => sx_region ?_
 refine sp rfl (px_field rfl xfld29x1) ?_
 refine sp rfl (px_load rfl (f11.load1 rfl Tryd.isAgg22)) ?_
 refine sp rfl (px_field rfl xfld29x1) ?_
 refine sp rfl (px_load rfl (f12.load1 rfl Tryd.isAgg22)) ?_
 have f37 := hva0.ext cb2
 have f38 := f37.ext cb4
 have f39 := f38.ext cb6
 have f40 := hvb0.ext cb2
 have f41 := f40.ext cb4
 have f42 := f41.ext cb6
 refine sx_call rfl rfl Tryd.call115 (c_l02Cmp f39 f42 (by omega)) (fun v43 w43 p43 => ?_)
 obtain ⟨rfl, c43⟩ := p43
 have zw43 := c43.size
 refine sp rfl (px_ge rfl rfl) ?_
 refine wl_nil (q_n (k36 _ _ ?_))
 refine sx_sub (Sub.c 2 rfl (.c 3 rfl (.c 4 rfl (.c 23 rfl .nil)))) ?_
 refine sx_condP rfl (fun h56 => ?_) (fun h56 => ?_)
 ·
  rw [cmpL_dg] at h56
  have hge := cmpN_nonneg.1 h56
  refine sx_seq fun K44 k44 => ?_
  have f45 := f11.ext c43
  have f46 := f12.ext c43
  refine dx_region (fun w' => Chg b6 (b6 + 1) w43 w') (by kernel_rfl) (Chg.zero (Chg.drew _)) ?_
  have d49 := Chg.drew w43
  have s49 : Chg b6 (b6 + 1) w43 (World.drew w43) := Chg.zero (Chg.drew _)
  have y49 : (World.drew w43).heap.size = w43.heap.size := rfl
  generalize World.drew w43 = w49 at *
  have zw49 := d49.size
  refine dt 0 rfl rfl rfl rfl s49 (fun _ hS => px_field rfl xfld29x0) ?_
  refine dt 1 rfl rfl rfl rfl s49 (fun _ hS => px_load rfl ((f45.chg hS (by omega)).load1 rfl Tryd.isAgg4)) ?_
  refine dt 2 rfl rfl rfl rfl s49 (fun _ hS => px_field rfl xfld29x1) ?_
  refine dt 3 rfl rfl rfl rfl s49 (fun _ hS => px_load rfl ((f45.chg hS (by omega)).load1 rfl Tryd.isAgg22)) ?_
  refine dt 4 rfl rfl rfl rfl s49 (fun _ hS => px_field rfl xfld29x1) ?_
  refine dt 5 rfl rfl rfl rfl s49 (fun _ hS => px_load rfl ((f46.chg hS (by omega)).load1 rfl Tryd.isAgg22)) ?_
  refine dx_eff 6 rfl (by kernel_rfl) ?_
  have f50 := (f39.ext c43).ext d49
  have f51 := (f42.ext c43).ext d49
  refine sx_call rfl rfl Tryd.call128 (c_l02Sub f50 f51 (by omega) (by omega) (by omega)) (fun v52 w52 p52 => ?_)
  obtain ⟨s52, rfl, os_52, c52⟩ := p52
  have zw52 := c52.size
  have s53 : Chg b6 (b6 + 1) w43 w52 := (Chg.zero (l := b6) (h := (b6 + 1)) (d49.t c52))
  refine wl_nil ?_
  refine dx_next s53 ?_
  refine dx_eff 7 rfl (by kernel_rfl) ?_
  refine sx_call rfl rfl Tryd.call108 (c_l04Make os_52 (by omega)) (fun v54 w54 p54 => ?_)
  obtain ⟨s54, rfl, os_54, c54⟩ := p54
  have zw54 := c54.size
  have s55 : Chg b6 (b6 + 1) w43 w54 := (Chg.zero (l := b6) (h := (b6 + 1)) ((d49.t c52).t c54))
  refine wl_nil ?_
  refine dx_next s55 ?_
  refine dx_eff 8 rfl (by kernel_rfl) ?_
  have f60 := (((fb6.ext c43).ext d49).ext c52).ext c54
  refine sx_store (vs := [.bool (ng (capI (ng x) (x.natAbs - y.natAbs))), s54]) rfl rfl f60 rfl Tryd.sizeOf29 (nbl rfl) (one_cons rfl (one_cons os_54.one one_nil)) (fun w56 sw56 fw56 cw56 => ?_)
  have zw56 := cw56.size
  have gw56 : Blk w56 b6 [.bool (ng (capI (ng x) (x.natAbs - y.natAbs))), s54] 29 := fw56
  have q62 := Chg.step (l := b6) (h := (b6 + 1)) (Chg.zero (l := b6) (h := (b6 + 1)) ((d49.t c52).t c54)) cw56 (by omega)
  have s61 : Chg b6 (b6 + 1) w43 w56 := q62
  refine wl_nil ?_
  refine dx_next s61 ?_
  refine dx_done (by kernel_rfl) ?_
  refine q_n (k44 _ _ ?_)
  refine sx_retc ?_
  refine q_r (sx_ret1 Tryd.results118 ⟨_, rfl, gw56.loadA (vs := [.bool (ng (capI (ng x) (x.natAbs - y.natAbs))), s54]) (look_lit rfl) Tryd.isAgg29 Tryd.sizeOf29⟩ ?_)
  have hq := capI_of (sub_sg h53 hge)
  rw [← hq]
  have q63 := Chg.step (l := 0) (h := 0) (Chg.zero (l := 0) (h := 0) ((((((cb2.t cb4).t cb6).t c43).t d49).t c52).t c54)) cw56 (by omega)
  have f64 := os_54.chg cw56 (by omega)
  exact ⟨_, rfl, (Own.mono f64 (by omega) (by omega)), q63⟩
 rw [cmpL_dg] at h56
 have hlt := cmpN_neg.1 (Int.not_le.1 h56)
 refine sx_skip ?_
 refine q_n (k35 _ _ ?_)
 refine sx_seq fun K65 k65 => ?_
 have f66 := f11.ext c43
 have f67 := f12.ext c43
 refine dx_region (fun w' => Chg b6 (b6 + 1) w43 w') (by kernel_rfl) (Chg.zero (Chg.drew _)) ?_
 have d70 := Chg.drew w43
 have s70 : Chg b6 (b6 + 1) w43 (World.drew w43) := Chg.zero (Chg.drew _)
 have y70 : (World.drew w43).heap.size = w43.heap.size := rfl
 generalize World.drew w43 = w70 at *
 have zw70 := d70.size
 refine dt 0 rfl rfl rfl rfl s70 (fun _ hS => px_field rfl xfld29x0) ?_
 refine dt 1 rfl rfl rfl rfl s70 (fun _ hS => px_load rfl ((f67.chg hS (by omega)).load1 rfl Tryd.isAgg4)) ?_
 refine dt 2 rfl rfl rfl rfl s70 (fun _ hS => px_field rfl xfld29x1) ?_
 refine dt 3 rfl rfl rfl rfl s70 (fun _ hS => px_load rfl ((f67.chg hS (by omega)).load1 rfl Tryd.isAgg22)) ?_
 refine dt 4 rfl rfl rfl rfl s70 (fun _ hS => px_field rfl xfld29x1) ?_
 refine dt 5 rfl rfl rfl rfl s70 (fun _ hS => px_load rfl ((f66.chg hS (by omega)).load1 rfl Tryd.isAgg22)) ?_
 refine dx_eff 6 rfl (by kernel_rfl) ?_
 have f71 := (f42.ext c43).ext d70
 have f72 := (f39.ext c43).ext d70
 refine sx_call rfl rfl Tryd.call128 (c_l02Sub f71 f72 (by omega) (by omega) (by omega)) (fun v73 w73 p73 => ?_)
 obtain ⟨s73, rfl, os_73, c73⟩ := p73
 have zw73 := c73.size
 have s74 : Chg b6 (b6 + 1) w43 w73 := (Chg.zero (l := b6) (h := (b6 + 1)) (d70.t c73))
 refine wl_nil ?_
 refine dx_next s74 ?_
 refine dx_eff 7 rfl (by kernel_rfl) ?_
 refine sx_call rfl rfl Tryd.call108 (c_l04Make os_73 (by omega)) (fun v75 w75 p75 => ?_)
 obtain ⟨s75, rfl, os_75, c75⟩ := p75
 have zw75 := c75.size
 have s76 : Chg b6 (b6 + 1) w43 w75 := (Chg.zero (l := b6) (h := (b6 + 1)) ((d70.t c73).t c75))
 refine wl_nil ?_
 refine dx_next s76 ?_
 refine dx_eff 8 rfl (by kernel_rfl) ?_
 have f81 := (((fb6.ext c43).ext d70).ext c73).ext c75
 refine sx_store (vs := [.bool (ng (capI (ng y) (y.natAbs - x.natAbs))), s75]) rfl rfl f81 rfl Tryd.sizeOf29 (nbl rfl) (one_cons rfl (one_cons os_75.one one_nil)) (fun w77 sw77 fw77 cw77 => ?_)
 have zw77 := cw77.size
 have gw77 : Blk w77 b6 [.bool (ng (capI (ng y) (y.natAbs - x.natAbs))), s75] 29 := fw77
 have q83 := Chg.step (l := b6) (h := (b6 + 1)) (Chg.zero (l := b6) (h := (b6 + 1)) ((d70.t c73).t c75)) cw77 (by omega)
 have s82 : Chg b6 (b6 + 1) w43 w77 := q83
 refine wl_nil ?_
 refine dx_next s82 ?_
 refine dx_done (by kernel_rfl) ?_
 refine q_n (k65 _ _ ?_)
 refine sx_retc ?_
 refine sx_ret1 Tryd.results118 ⟨_, rfl, gw77.loadA (vs := [.bool (ng (capI (ng y) (y.natAbs - x.natAbs))), s75]) (look_lit rfl) Tryd.isAgg29 Tryd.sizeOf29⟩ ?_
 have hq := capI_of (sub_sg2 h53 (by omega))
 rw [← hq]
 have q84 := Chg.step (l := 0) (h := 0) (Chg.zero (l := 0) (h := 0) ((((((cb2.t cb4).t cb6).t c43).t d70).t c73).t c75)) cw77 (by omega)
 have f85 := os_75.chg cw77 (by omega)
 exact ⟨_, rfl, (Own.mono f85 (by omega) (by omega)), q84⟩

theorem c_IntAdd {w : World} {va : Value} {lva uva : Nat} {x : Int} {vb : Value} {lvb uvb : Nat} {y : Int} (hva : Sl w lva uva va (dg x.natAbs)) (hvb : Sl w lvb uvb vb (dg y.natAbs)) (hbx : (dg x.natAbs).length ≤ 50) (hby : (dg y.natAbs).length ≤ 50) :
  Ret Tryd.prog 96 [.agg #[.bool (ng x), va], .agg #[.bool (ng y), vb]] w fun v w' => ∃ s, v = .agg #[.bool (ng (cap (x + y))), s] ∧ OwnI w' w.heap.size w'.heap.size s intT (dg (cap (x + y)).natAbs) ∧ Chg 0 0 w w' := by
 have hva0 := hva.fit
 have hvb0 := hvb.fit
 refine sx_enter Tryd.func96 rfl Tryd.ntmps96 (nbl rfl) ?_
 refine sx_seq fun K1 k1 => sx_region ?_
 refine sx_box [.bool (ng x), va] rfl rfl rfl (fun b2 w3 eb2 sb2 fb2 cb2 => ?_)
 have zw3 := cb2.size
 refine sx_box [.bool (ng y), vb] rfl rfl rfl (fun b4 w5 eb4 sb4 fb4 cb4 => ?_)
 have zw5 := cb4.size
 refine sx_alloc [.bool false, (.slice none 0 0)] rfl Tryd.zeroValue29 rfl (fun b6 w7 eb6 sb6 fb6 cb6 => ?_)
 have zw7 := cb6.size
 refine wl_nil (q_n (k1 _ _ ?_))
 refine sx_seq fun K8 k8 => ?_
 refine sx_seq fun K9 k9 => sx_region ?_
 have f10 := fb2.ext cb4
 have f11 := f10.ext cb6
 refine sp rfl (px_load rfl (f11.loadA (vs := [.bool (ng x), va]) (look_lit rfl) Tryd.isAgg29 Tryd.sizeOf29)) ?_
 have f12 := hva0.ext cb2
 have f13 := f12.ext cb4
 have f14 := f13.ext cb6
 refine sx_call rfl rfl Tryd.call59 (c_sIntOk f14 (by omega)) (fun v15 w15 p15 => ?_)
 obtain ⟨rfl, c15⟩ := p15
 have zw15 := c15.size
 refine sp rfl (px_notP rfl) ?_
 refine mv rfl rfl ?_
 have h64 : ¬ (¬ (IOk (ng x) (dg x.natAbs))) := by first | exact fun h => h (IOk_ng (by omega)) | exact fun h => h (IOk_ng (by assumption))
 refine sx_tmpPF (t := 8) rfl h64 ?_
 refine sx_guardT rfl rfl rfl ?_
 have f16 := fb4.ext cb6
 have f17 := f16.ext c15
 refine sp rfl (px_load rfl (f17.loadA (vs := [.bool (ng y), vb]) (look_lit rfl) Tryd.isAgg29 Tryd.sizeOf29)) ?_
 refine sx_guardT rfl rfl rfl ?_
 have f18 := hvb0.ext cb2
 have f19 := f18.ext cb4
 have f20 := f19.ext cb6
 have f21 := f20.ext c15
 refine sx_call rfl rfl Tryd.call59 (c_sIntOk f21 (by omega)) (fun v22 w22 p22 => ?_)
 obtain ⟨rfl, c22⟩ := p22
 have zw22 := c22.size
 refine sx_guardT rfl rfl rfl ?_
 refine sp rfl (px_notP rfl) ?_
 refine sp rfl (px_pick rfl rfl) ?_
 refine wl_nil (q_n (k9 _ _ ?_))
 have h64x1 : ¬ (¬ (IOk (ng y) (dg y.natAbs))) := by first | exact fun h => h (IOk_ng (by omega)) | exact fun h => h (IOk_ng (by assumption))
 refine sx_condPF rfl h64x1 ?_
 refine sx_skip ?_
 refine q_n (k8 _ _ ?_)
 refine sx_seq fun K23 k23 => sx_region ?_
 have f25 := (f11.ext c15).ext c22
 refine sp rfl (px_load rfl (f25.loadA (vs := [.bool (ng x), va]) (look_lit rfl) Tryd.isAgg29 Tryd.sizeOf29)) ?_
 have f26 := f17.ext c22
 refine sp rfl (px_load rfl (f26.loadA (vs := [.bool (ng y), vb]) (look_lit rfl) Tryd.isAgg29 Tryd.sizeOf29)) ?_
 have f28 := (f14.ext c15).ext c22
 have f29 := f21.ext c22
 refine sx_call rfl rfl Tryd.call118 (c_l04Add f28 f29 (by omega) (by omega)) (fun v30 w30 p30 => ?_)
 obtain ⟨s30, rfl, os_30, c30⟩ := p30
 have zw30 := c30.size
 have f34 := ((fb6.ext c15).ext c22).ext c30
 refine sx_store (vs := [.bool (ng (cap (x + y))), s30]) rfl rfl f34 rfl Tryd.sizeOf29 (nbl rfl) (one_cons rfl (one_cons os_30.one one_nil)) (fun w31 sw31 fw31 cw31 => ?_)
 have zw31 := cw31.size
 have gw31 : Blk w31 b6 [.bool (ng (cap (x + y))), s30] 29 := fw31
 refine wl_nil (q_n (k23 _ _ ?_))
 refine sx_sub (Sub.c 4 rfl .nil) ?_
 refine sx_retc ?_
 refine sx_ret1 Tryd.results96 ⟨_, rfl, gw31.loadA (vs := [.bool (ng (cap (x + y))), s30]) (look_lit rfl) Tryd.isAgg29 Tryd.sizeOf29⟩ ?_
 have q35 := Chg.step (l := 0) (h := 0) (Chg.zero (l := 0) (h := 0) (((((cb2.t cb4).t cb6).t c15).t c22).t c30)) cw31 (by omega)
 have f36 := os_30.chg cw31 (by omega)
 exact ⟨_, rfl, (Own.mono f36 (by omega) (by omega)), q35⟩

theorem c_IntAddE {w : World} {va : Value} {lva uva : Nat} {x : Int} {vb : Value} {lvb uvb : Nat} {y : Int} (hva : Sl w lva uva va (dg x.natAbs)) (hvb : Sl w lvb uvb vb (dg y.natAbs)) (hbx : (dg x.natAbs).length ≤ 49) (hby : (dg y.natAbs).length ≤ 49) :
  Ret Tryd.prog 96 [.agg #[.bool (ng x), va], .agg #[.bool (ng y), vb]] w fun v w' => ∃ s, v = .agg #[.bool (ng (x + y)), s] ∧ OwnI w' w.heap.size w'.heap.size s intT (dg (x + y).natAbs) ∧ Chg 0 0 w w' := by
 have h := c_IntAdd hva hvb (by omega) (by omega); rwa [cap_ok (by have := len_addI x y; omega)] at h

theorem c_l09Make {w : World} {c : ByteArray} {va : Value} {lva uva : Nat} {x : Int} (hva : OwnI w lva uva va intT (dg x.natAbs)) (hbx : (dg x.natAbs).length ≤ 1000) (hu : uva ≤ w.heap.size) :
  Ret Tryd.prog 73 [.string c, .agg #[.bool (ng x), va]] w fun v w' => ∃ s, v = .tuple #[.agg #[.string ((mR c x).1), .bool ((mR c x).2.1), s], .bool ((mR c x).2.2.2)] ∧ OwnI w' (lva) (uva) s intT ((mR c x).2.2.1) ∧ Chg 0 0 w w' := by
 refine sx_enter Tryd.func73 rfl Tryd.ntmps73 (nbl rfl) ?_
 refine sx_seq fun K1 k1 => sx_region ?_
 refine sx_box [.bool (ng x), va] rfl rfl rfl (fun b2 w3 eb2 sb2 fb2 cb2 => ?_)
 have zw3 := cb2.size
 refine sx_alloc [.string (⟨#[]⟩), .bool false, (.slice none 0 0)] rfl Tryd.zeroValue31 rfl (fun b4 w5 eb4 sb4 fb4 cb4 => ?_)
 have zw5 := cb4.size
 refine av rfl rfl (wl_nil (q_n (k1 _ _ ?_)))
 refine sx_seq fun K6 k6 => sx_region ?_
 refine mv rfl rfl ?_
 have f7 := fb2.ext cb4
 refine sp rfl (px_load rfl (f7.loadA (vs := [.bool (ng x), va]) (look_lit rfl) Tryd.isAgg29 Tryd.sizeOf29)) ?_
 refine sp rfl (px_build rfl (xbld31x0x1 rfl _)) ?_
 refine sx_alloc [.string (⟨#[]⟩), .bool false, (.slice none 0 0)] rfl Tryd.zeroValue31 rfl (fun b8 w9 eb8 sb8 fb8 cb8 => ?_)
 have zw9 := cb8.size
 have f11 := hva.ext cb2
 have f12 := f11.ext cb4
 have f13 := f12.ext cb8
 refine sx_store (vs := [.string c, .bool (ng x), va]) rfl rfl fb8 rfl Tryd.sizeOf31 (nbl rfl) (one_cons rfl (one_cons rfl (one_cons f13.one one_nil))) (fun w10 sw10 fw10 cw10 => ?_)
 have zw10 := cw10.size
 have gw10 : Blk w10 b8 [.string c, .bool (ng x), va] 31 := fw10
 refine wl_nil (q_n (k6 _ _ ?_))
 refine sx_seq fun K14 k14 => ?_
 refine sx_seq fun K15 k15 => sx_region ?_
 refine sp rfl (px_load rfl (gw10.loadA (vs := [.string c, .bool (ng x), va]) (look_lit rfl) Tryd.isAgg31 Tryd.sizeOf31)) ?_
 have f16 := f13.chg cw10 (by omega)
 refine sx_call rfl rfl Tryd.call16 (c_sMoneyOk f16.sv (by omega)) (fun v17 w17 p17 => ?_)
 obtain ⟨rfl, c17⟩ := p17
 have zw17 := c17.size
 refine sp rfl (px_notP rfl) ?_
 refine wl_nil (q_n (k15 _ _ ?_))
 refine sx_condP rfl (fun h13 => ?_) (fun h13 => ?_)
 ·
  refine sx_seq fun K18 k18 => sx_region ?_
  refine sp rfl (px_build rfl (xbld31x  _)) ?_
  have f20 := fb4.ext cb8
  have f21 := f20.chg cw10 (by omega)
  have f22 := f21.ext c17
  refine sx_store (vs := [.string (⟨#[]⟩), .bool false, (.slice none 0 0)]) rfl rfl f22 rfl Tryd.sizeOf31 (nbl rfl) (o3 rfl rfl rfl) (fun w19 sw19 fw19 cw19 => ?_)
  have zw19 := cw19.size
  have gw19 : Blk w19 b4 [.string (⟨#[]⟩), .bool false, (.slice none 0 0)] 31 := fw19
  refine av rfl rfl (wl_nil (q_n (k18 _ _ ?_)))
  refine sx_retc ?_
  refine q_r (sx_ret2 Tryd.results73 ⟨_, rfl, gw19.loadA (vs := [.string (⟨#[]⟩), .bool false, (.slice none 0 0)]) (look_lit rfl) Tryd.isAgg31 Tryd.sizeOf31⟩ rfl ?_)
  rw [mR_no (by first | exact h13 | assumption)]
  have q23 := Chg.step (l := 0) (h := 0) (Chg.zero (l := 0) (h := 0) ((cb2.t cb4).t cb8)) cw10 (by omega)
  have q24 := Chg.step (l := 0) (h := 0) q23 c17 (by omega)
  have q25 := Chg.step (l := 0) (h := 0) q24 cw19 (by omega)
  exact ⟨_, rfl, Own.nil _ _ _ _ _, q25⟩
 refine sx_skip ?_
 refine q_n (k14 _ _ ?_)
 refine sx_seq fun K26 k26 => sx_region ?_
 have f27 := gw10.ext c17
 refine sp rfl (px_load rfl (f27.loadA (vs := [.string c, .bool (ng x), va]) (look_lit rfl) Tryd.isAgg31 Tryd.sizeOf31)) ?_
 have f29 := fb4.ext cb8
 have f30 := f29.chg cw10 (by omega)
 have f31 := f30.ext c17
 have f32 := f16.ext c17
 refine sx_store (vs := [.string c, .bool (ng x), va]) rfl rfl f31 rfl Tryd.sizeOf31 (nbl rfl) (one_cons rfl (one_cons rfl (one_cons f32.one one_nil))) (fun w28 sw28 fw28 cw28 => ?_)
 have zw28 := cw28.size
 have gw28 : Blk w28 b4 [.string c, .bool (ng x), va] 31 := fw28
 refine av rfl rfl (wl_nil (q_n (k26 _ _ ?_)))
 refine sx_retc ?_
 refine sx_ret2 Tryd.results73 ⟨_, rfl, gw28.loadA (vs := [.string c, .bool (ng x), va]) (look_lit rfl) Tryd.isAgg31 Tryd.sizeOf31⟩ rfl ?_
 rw [mR_ok (by first | exact h13 | exact Decidable.not_not.1 h13)]
 have q33 := Chg.step (l := 0) (h := 0) (Chg.zero (l := 0) (h := 0) ((cb2.t cb4).t cb8)) cw10 (by omega)
 have q34 := Chg.step (l := 0) (h := 0) q33 c17 (by omega)
 have q35 := Chg.step (l := 0) (h := 0) q34 cw28 (by omega)
 have f36 := f32.chg cw28 (by omega)
 exact ⟨_, rfl, (Own.mono f36 (by omega) (by omega)), q35⟩

theorem c_sMoneySum {w : World} {c : ByteArray} {vl : Value} {lvl uvl : Nat} {ts : List Mt} {vvl : List Value} (hvl : MtS w lvl uvl vl ts vvl) (h63 : ts.length ≤ 4611686018427387904) (hz : ∀ i, i < ts.length → (ts.getD i mt0).2.2.length ≤ 4611686018427387904) :
  Ret Tryd.prog 52 [.string c, vl] w fun v w' => ∃ s, v = .tuple #[.agg #[.string ((msum c ts).1), .bool ((msum c ts).2.1), s], .bool ((msum c ts).2.2.2)] ∧ OwnI w' w.heap.size w'.heap.size s intT ((msum c ts).2.2.1) ∧ ((msum c ts).2.2.1.length ≤ 4) ∧ Chg 0 0 w w' := by
 have hvl0 := hvl.fit
 refine sx_enter Tryd.func52 rfl Tryd.ntmps52 (nbl rfl) ?_
 refine sx_seq fun K1 k1 => sx_region ?_
 refine sx_alloc [.string (⟨#[]⟩), .bool false, (.slice none 0 0)] rfl Tryd.zeroValue31 rfl (fun b2 w3 eb2 sb2 fb2 cb2 => ?_)
 have zw3 := cb2.size
 refine av rfl rfl (wl_nil (q_n (k1 _ _ ?_)))
 refine sx_seq fun K4 k4 => sx_region ?_
 refine sp rfl (px_build rfl (xbld29x  _)) ?_
 refine sx_alloc [.bool false, (.slice none 0 0)] rfl Tryd.zeroValue29 rfl (fun b5 w6 eb5 sb5 fb5 cb5 => ?_)
 have zw6 := cb5.size
 refine sx_store (vs := [.bool false, (.slice none 0 0)]) rfl rfl fb5 rfl Tryd.sizeOf29 (nbl rfl) (o2 rfl rfl) (fun w7 sw7 fw7 cw7 => ?_)
 have zw7 := cw7.size
 have gw7 : Blk w7 b5 [.bool false, (.slice none 0 0)] 29 := fw7
 refine wl_nil (q_n (k4 _ _ ?_))
 refine sx_seq fun K8 k8 => ?_
 refine sx_seq fun K9 k9 => sx_region ?_
 refine mv rfl rfl ?_
 have f10 := hvl0.ext cb2
 have f11 := f10.ext cb5
 have f12 := f11.chg cw7 (by omega)
 refine sp rfl (px_len rfl Tryd.underlying81 f12.sv) ?_
 refine mv rfl rfl (wl_nil (q_n (k9 _ _ ?_)))
 refine sx_block ?_
 have hbz : Blk w7 b5 [.bool (ng (0 : Int)), (.slice none 0 0)] 29 := gw7
 have hnz : OwnI w7 w7.heap.size w7.heap.size (.slice none 0 0) intT (dg (0 : Int).natAbs) := by rw [show (0 : Int).natAbs = 0 from rfl, dg_zero]; exact Own.nil _ _ _ _ _
 have f14 := fb2.ext cb5
 have f15 := f14.chg cw7 (by omega)
 refine sx_loop (fun mm aa w' => ∃ (k : Nat) (x : Int) (s : Value) (gl : Nat) (gh : Nat), Agr 36 [(0, .string c), (4, .pointer (some ⟨b2, 0, none⟩)), (5, .bool false), (6, .pointer (some ⟨b5, 0, none⟩)), (10, vl), (11, .int .i64 (↑(ts).length)), (12, .int .i64 ↑k)] aa ∧ Chg b5 (b5 + 1) w7 w' ∧ Blk w' b5 [.bool (ng (x)), s] 29 ∧ Blk w' b2 [.string (⟨#[]⟩), .bool false, (.slice none 0 0)] 31 ∧ Own w' gl gh s intT ((dg (x).natAbs).length) 1 ((dg (x).natAbs).map (Value.int .i64)) ∧ (mm = ts.length - k) ∧ (k ≤ ts.length) ∧ (x = sumTo ts k) ∧ (AllM c ts k) ∧ (w7.heap.size ≤ gl ∧ gh ≤ w'.heap.size)) (_) (fun a ha => ⟨0, (0 : Int), (.slice none 0 0), w7.heap.size, w7.heap.size, ha.sub (Sub.c 0 rfl (.c 4 rfl (.c 5 rfl (.c 6 rfl (.c 10 rfl (.c 11 (look_int (t := 11) rfl (by first | omega | simp)) (.c 12 (look_int (t := 12) rfl (by first | omega | simp)) .nil))))))), Chg.refl _ _ _, hbz, f15, hnz, rfl, by omega, rfl, AllM_zero c ts, ⟨Nat.le_refl _, Nat.le_refl _⟩⟩) ?_
 rintro mm aa wl13 ⟨k, x, s, gl, gh, hAwl13, cwl13, hb_b5, hb_b2, hs_s, hm, hk, hx, hall, hgl⟩
 refine (show cw Tryd.prog 36 _ _ _ wl13 from ?_) aa hAwl13
 clear hAwl13
 have zwl13 := cwl13.size
 have hsl := msumTo_len hall (by omega)
 rw [← hx] at hsl
 refine sx_seq fun K16 k16 => sx_region ?_
 refine sp rfl (px_lt rfl rfl) ?_
 refine wl_nil (q_n (k16 _ _ ?_))
 refine sx_seq fun K17 k17 => ?_
 refine sx_condP rfl (fun h117 => ?_) (fun h117 => ?_)
 ·
  refine sx_skip ?_
  refine q_n (k17 _ _ ?_)
  refine sx_seq fun K18 k18 => ?_
  refine sx_block ?_
  refine sx_seq fun K19 k19 => sx_region ?_
  have f20 := f12.chg cwl13 (by omega)
  refine sp rfl (px_indexK (j := k) rfl rfl (by omega) Tryd.underlying81 Tryd.sizeOf31 f20.sv (by omega)) ?_
  refine sp rfl (px_load rfl (f20.sv.loadA (mt_look f20.len (by omega)) Tryd.isAgg31 Tryd.sizeOf31)) ?_
  refine sx_alloc [.string (⟨#[]⟩), .bool false, (.slice none 0 0)] rfl Tryd.zeroValue31 rfl (fun b21 w22 eb21 sb21 fb21 cb21 => ?_)
  have zw22 := cb21.size
  have f24 := (f20.nest k (by omega)).ext cb21
  refine sx_store (vs := [.string ((ts.getD k mt0).1), .bool ((ts.getD k mt0).2.1), (vvl.getD k vz)]) rfl rfl fb21 rfl Tryd.sizeOf31 (nbl rfl) (one_cons rfl (one_cons rfl (one_cons f24.one one_nil))) (fun w23 sw23 fw23 cw23 => ?_)
  have zw23 := cw23.size
  have gw23 : Blk w23 b21 [.string ((ts.getD k mt0).1), .bool ((ts.getD k mt0).2.1), (vvl.getD k vz)] 31 := fw23
  refine wl_nil (q_n (k19 _ _ ?_))
  refine sx_seq fun K25 k25 => ?_
  refine sx_seq fun K26 k26 => sx_region ?_
  refine sp rfl (px_load rfl (gw23.loadA (vs := [.string ((ts.getD k mt0).1), .bool ((ts.getD k mt0).2.1), (vvl.getD k vz)]) (look_lit rfl) Tryd.isAgg31 Tryd.sizeOf31)) ?_
  have f27 := f24.chg cw23 (by omega)
  refine sx_call rfl rfl Tryd.call16 (c_sMoneyOk f27 (hz k (by omega))) (fun v28 w28 p28 => ?_)
  obtain ⟨rfl, c28⟩ := p28
  have zw28 := c28.size
  refine sp rfl (px_notP rfl) ?_
  refine mv rfl rfl ?_
  refine sx_tmpP (t := 19) rfl (fun h118 => ?_) (fun h118 => ?_)
  ·
   refine sx_guardF rfl rfl rfl rfl rfl rfl ?_
   refine sx_guardF rfl rfl rfl rfl rfl rfl ?_
   refine sx_guardF rfl rfl rfl rfl rfl rfl ?_
   refine sx_guardF rfl rfl rfl rfl rfl rfl ?_
   refine sp rfl (px_pick rfl rfl) ?_
   refine wl_nil (q_n (k26 _ _ ?_))
   refine sx_sub (Sub.c 0 rfl (.c 4 rfl (.c 5 rfl (.c 6 rfl (.c 8 rfl (.c 10 rfl (.c 11 rfl (.c 12 rfl (.c 24 rfl .nil))))))))) ?_
   refine sx_condT rfl ?_
   refine sx_seq fun K29 k29 => sx_region ?_
   refine sp rfl (px_build rfl (xbld31x  _)) ?_
   have f31 := hb_b2.ext cb21
   have f32 := f31.chg cw23 (by omega)
   have f33 := f32.ext c28
   refine sx_store (vs := [.string (⟨#[]⟩), .bool false, (.slice none 0 0)]) rfl rfl f33 rfl Tryd.sizeOf31 (nbl rfl) (o3 rfl rfl rfl) (fun w30 sw30 fw30 cw30 => ?_)
   have zw30 := cw30.size
   have gw30 : Blk w30 b2 [.string (⟨#[]⟩), .bool false, (.slice none 0 0)] 31 := fw30
   refine av rfl rfl (wl_nil (q_n (k29 _ _ ?_)))
   refine sx_retc ?_
   refine q_r (q_br (q_r (q_r (q_br (q_r (sx_ret2 Tryd.results52 ⟨_, rfl, gw30.loadA (vs := [.string (⟨#[]⟩), .bool false, (.slice none 0 0)]) (look_lit rfl) Tryd.isAgg31 Tryd.sizeOf31⟩ rfl ?_))))))
   rw [msum_no (k := k) (by omega) (fun hh => by first | exact h118 hh.1 | exact h118x1 hh.2)]
   have q34 := Chg.step (l := 0) (h := 0) (Chg.zero (l := 0) (h := 0) (cb2.t cb5)) cw7 (by omega)
   have q35 := Chg.step (l := 0) (h := 0) q34 cwl13 (by omega)
   have q36 := Chg.step (l := 0) (h := 0) q35 cb21 (by omega)
   have q37 := Chg.step (l := 0) (h := 0) q36 cw23 (by omega)
   have q38 := Chg.step (l := 0) (h := 0) q37 c28 (by omega)
   have q39 := Chg.step (l := 0) (h := 0) q38 cw30 (by omega)
   exact ⟨_, rfl, Own.nil _ _ _ _ _, by simp [noM], q39⟩
  refine sx_guardT rfl rfl rfl ?_
  refine sp rfl (px_field rfl xfld31x0) ?_
  refine sx_guardT rfl rfl rfl ?_
  have f40 := gw23.ext c28
  refine sp rfl (px_load rfl (f40.load1 rfl Tryd.isAgg9)) ?_
  refine sx_guardT rfl rfl rfl ?_
  refine mv rfl rfl ?_
  refine sx_guardT rfl rfl rfl ?_
  refine sp rfl (px_neS rfl rfl) ?_
  refine sp rfl (px_pick rfl rfl) ?_
  refine wl_nil (q_n (k26 _ _ ?_))
  refine sx_sub (Sub.c 0 rfl (.c 4 rfl (.c 5 rfl (.c 6 rfl (.c 8 rfl (.c 10 rfl (.c 11 rfl (.c 12 rfl (.c 24 rfl .nil))))))))) ?_
  refine sx_condP rfl (fun h118x1 => ?_) (fun h118x1 => ?_)
  ·
   refine sx_seq fun K41 k41 => sx_region ?_
   refine sp rfl (px_build rfl (xbld31x  _)) ?_
   have f43 := hb_b2.ext cb21
   have f44 := f43.chg cw23 (by omega)
   have f45 := f44.ext c28
   refine sx_store (vs := [.string (⟨#[]⟩), .bool false, (.slice none 0 0)]) rfl rfl f45 rfl Tryd.sizeOf31 (nbl rfl) (o3 rfl rfl rfl) (fun w42 sw42 fw42 cw42 => ?_)
   have zw42 := cw42.size
   have gw42 : Blk w42 b2 [.string (⟨#[]⟩), .bool false, (.slice none 0 0)] 31 := fw42
   refine av rfl rfl (wl_nil (q_n (k41 _ _ ?_)))
   refine sx_retc ?_
   refine q_r (q_br (q_r (q_r (q_br (q_r (sx_ret2 Tryd.results52 ⟨_, rfl, gw42.loadA (vs := [.string (⟨#[]⟩), .bool false, (.slice none 0 0)]) (look_lit rfl) Tryd.isAgg31 Tryd.sizeOf31⟩ rfl ?_))))))
   rw [msum_no (k := k) (by omega) (fun hh => by first | exact h118 hh.1 | exact h118x1 hh.2)]
   have q46 := Chg.step (l := 0) (h := 0) (Chg.zero (l := 0) (h := 0) (cb2.t cb5)) cw7 (by omega)
   have q47 := Chg.step (l := 0) (h := 0) q46 cwl13 (by omega)
   have q48 := Chg.step (l := 0) (h := 0) q47 cb21 (by omega)
   have q49 := Chg.step (l := 0) (h := 0) q48 cw23 (by omega)
   have q50 := Chg.step (l := 0) (h := 0) q49 c28 (by omega)
   have q51 := Chg.step (l := 0) (h := 0) q50 cw42 (by omega)
   exact ⟨_, rfl, Own.nil _ _ _ _ _, by simp [noM], q51⟩
  have hM := Decidable.not_not.1 h118
  have hC := Decidable.not_not.1 h118x1
  obtain ⟨y, hy1, hy2, hy⟩ := hM.int
  have hla := len_addI x y
  have f52 := f27.ext c28
  have f53 := f52
  rw [hy2] at f53
  have f54 := f40
  rw [hy1] at f54
  refine sx_skip ?_
  refine q_n (k25 _ _ ?_)
  refine sx_region ?_
  have f55 := hb_b5.ext cb21
  have f56 := f55.chg cw23 (by omega)
  have f57 := f56.ext c28
  refine sp rfl (px_load rfl (f57.loadA (vs := [.bool (ng (x)), s]) (look_lit rfl) Tryd.isAgg29 Tryd.sizeOf29)) ?_
  refine sp rfl (px_field rfl xfld31x1) ?_
  refine sp rfl (px_load rfl (f54.loadA (vs := [.bool (ng y), (vvl.getD k vz)]) (look_lit rfl) Tryd.isAgg29 Tryd.sizeOf29)) ?_
  have f58 := hs_s.ext cb21
  have f59 := f58.chg cw23 (by omega)
  have f60 := f59.ext c28
  refine sx_call rfl rfl Tryd.call96 (c_IntAddE f60.sv f53 (by omega) (by omega)) (fun v61 w61 p61 => ?_)
  obtain ⟨s61, rfl, os_61, c61⟩ := p61
  have zw61 := c61.size
  have f63 := f57.ext c61
  refine sx_store (vs := [.bool (ng ((x) + (y))), s61]) rfl rfl f63 rfl Tryd.sizeOf29 (nbl rfl) (one_cons rfl (one_cons os_61.one one_nil)) (fun w62 sw62 fw62 cw62 => ?_)
  have zw62 := cw62.size
  have gw62 : Blk w62 b5 [.bool (ng ((x) + (y))), s61] 29 := fw62
  refine wl_nil ?_
  refine q_bn (q_n (k18 _ _ ?_))
  refine sx_region ?_
  refine sp rfl (px_add rfl rfl (by omega)) ?_
  refine mv rfl rfl (wl_nil ?_)
  have q64 := Chg.step (l := b5) (h := (b5 + 1)) cwl13 cb21 (by omega)
  have q65 := Chg.step (l := b5) (h := (b5 + 1)) q64 cw23 (by omega)
  have q66 := Chg.step (l := b5) (h := (b5 + 1)) q65 (c28.t c61) (by omega)
  have q67 := Chg.step (l := b5) (h := (b5 + 1)) q66 cw62 (by omega)
  have f68 := hb_b2.ext cb21
  have f69 := f68.chg cw23 (by omega)
  have f72 := ((f69.ext c28).ext c61).chg cw62 (by omega)
  have f73 := os_61.chg cw62 (by omega)
  exact fun a ha => ⟨_, by omega, (k + 1), (x + y), s61, w28.heap.size, w61.heap.size, ha.sub (Sub.c 0 rfl (.c 4 rfl (.c 5 rfl (.c 6 rfl (.c 10 rfl (.c 11 rfl (.c 12 (look_int (t := 12) rfl (by first | omega | simp)) .nil))))))), q67, gw62, f72, (f73.mono (by omega) (by omega)), rfl, by omega, by show x + y = sumTo ts k + vI _ _; rw [hx, hy1, hy2, vI_ng], AllM_succ hall hM hC, by omega⟩
 refine sx_exit ?_
 refine q_e (q_e (q_bx (q_n (k8 _ _ ?_))))
 refine sx_seq fun K74 k74 => sx_region ?_
 refine mv rfl rfl (sp rfl (px_load rfl (hb_b5.loadA (vs := [.bool (ng (x)), s]) (look_lit rfl) Tryd.isAgg29 Tryd.sizeOf29)) ?_)
 refine sx_call rfl rfl Tryd.call73 (c_l09Make hs_s (by omega) (by omega)) (fun v75 w75 p75 => ?_)
 obtain ⟨s75, rfl, os_75, c75⟩ := p75
 have zw75 := c75.size
 refine sp rfl (px_ex2 rfl rfl) ?_
 refine sp rfl (px_ex2 rfl rfl) ?_
 have f77 := hb_b2.ext c75
 refine sx_store (vs := [.string ((mR c (x)).1), .bool ((mR c (x)).2.1), s75]) rfl rfl f77 rfl Tryd.sizeOf31 (nbl rfl) (one_cons rfl (one_cons rfl (one_cons os_75.one one_nil))) (fun w76 sw76 fw76 cw76 => ?_)
 have zw76 := cw76.size
 have gw76 : Blk w76 b2 [.string ((mR c (x)).1), .bool ((mR c (x)).2.1), s75] 31 := fw76
 refine av rfl rfl (wl_nil (q_n (k74 _ _ ?_)))
 refine sx_retc ?_
 refine sx_ret2 Tryd.results52 ⟨_, rfl, gw76.loadA (vs := [.string ((mR c (x)).1), .bool ((mR c (x)).2.1), s75]) (look_lit rfl) Tryd.isAgg31 Tryd.sizeOf31⟩ rfl ?_
 have ek : k = ts.length := by omega
 subst ek
 rw [msum_ok hall, ← hx]
 have q78 := Chg.step (l := 0) (h := 0) (Chg.zero (l := 0) (h := 0) (cb2.t cb5)) cw7 (by omega)
 have q79 := Chg.step (l := 0) (h := 0) q78 cwl13 (by omega)
 have q80 := Chg.step (l := 0) (h := 0) q79 c75 (by omega)
 have q81 := Chg.step (l := 0) (h := 0) q80 cw76 (by omega)
 have f82 := os_75.chg cw76 (by omega)
 exact ⟨_, rfl, (Own.mono f82 (by omega) (by omega)), mR_len, q81⟩

theorem c_currencyOf {w : World} {s : ByteArray} (hG0 : Glob w) :
  Ret Tryd.prog 66 [.string s] w fun v w' => v = .tuple #[.agg #[.string ((curOf s).code), .string ((curOf s).number), .int .i64 ((curOf s).places), .int .i64 ((curOf s).cash)], .bool (decide (Known s))] ∧ Chg 0 0 w w' := by
 refine sx_enter Tryd.func66 rfl Tryd.ntmps66 (nbl rfl) ?_
 refine sx_seq fun K1 k1 => sx_region ?_
 refine sx_alloc [.string (⟨#[]⟩), .string (⟨#[]⟩), .int .i64 0, .int .i64 0] rfl Tryd.zeroValue93 rfl (fun b2 w3 eb2 sb2 fb2 cb2 => ?_)
 have zw3 := cb2.size
 refine av rfl rfl (wl_nil (q_n (k1 _ _ ?_)))
 refine sx_seq fun K4 k4 => ?_
 refine sx_seq fun K5 k5 => sx_region ?_
 have f6 := hG0.ext cb2
 refine sp rfl (px_load rfl (Glob.load f6 Tryd.isAgg123 Tryd.sizeOf123)) ?_
 refine mv rfl rfl (wl_nil (q_n (k5 _ _ ?_)))
 refine sx_block ?_
 refine sx_loop (fun mm aa w' => ∃ (k : Nat), Agr 17 [(0, .string s), (2, .pointer (some ⟨b2, 0, none⟩)), (6, .agg (crCells tabI).toArray), (7, .int .i64 ↑k)] aa ∧ Chg 0 0 w3 w' ∧ (mm = 20 - k) ∧ (k ≤ 20) ∧ (∀ i, i < k → ¬ (tabI.getD i cr0).code = s)) (20) (fun a ha => ⟨0, ha.sub (Sub.c 0 rfl (.c 2 rfl (.c 6 rfl (.c 7 (look_int (t := 7) rfl (by first | omega | simp)) .nil)))), Chg.refl _ _ _, rfl, by omega, fun i h => by omega⟩) ?_
 rintro mm aa wl7 ⟨k, hAwl7, cwl7, hm, hk, hn⟩
 refine (show cw Tryd.prog 17 _ _ _ wl7 from ?_) aa hAwl7
 clear hAwl7
 have zwl7 := cwl7.size
 refine sx_seq fun K8 k8 => sx_region ?_
 refine sp rfl (px_lt rfl rfl) ?_
 refine wl_nil (q_n (k8 _ _ ?_))
 refine sx_seq fun K9 k9 => ?_
 refine sx_condP rfl (fun h39 => ?_) (fun h39 => ?_)
 ·
  refine sx_skip ?_
  refine q_n (k9 _ _ ?_)
  refine sx_seq fun K10 k10 => ?_
  refine sx_block ?_
  refine sx_seq fun K11 k11 => sx_region ?_
  refine sp rfl (px_indexCr (l := tabI) (j := k) rfl rfl (by omega) Tryd.underlying123 rfl Tryd.sizeOf93 Tryd.isAgg93 (by rw [show tabI.length = 20 from rfl]; omega)) ?_
  refine sx_alloc [.string (⟨#[]⟩), .string (⟨#[]⟩), .int .i64 0, .int .i64 0] rfl Tryd.zeroValue93 rfl (fun b12 w13 eb12 sb12 fb12 cb12 => ?_)
  have zw13 := cb12.size
  refine sx_store (vs := [.string ((tabI.getD k cr0).code), .string ((tabI.getD k cr0).number), .int .i64 ((tabI.getD k cr0).places), .int .i64 ((tabI.getD k cr0).cash)]) rfl rfl fb12 rfl Tryd.sizeOf93 (nbl rfl) (one_cons rfl (o3 rfl rfl rfl)) (fun w14 sw14 fw14 cw14 => ?_)
  have zw14 := cw14.size
  have gw14 : Blk w14 b12 [.string ((tabI.getD k cr0).code), .string ((tabI.getD k cr0).number), .int .i64 ((tabI.getD k cr0).places), .int .i64 ((tabI.getD k cr0).cash)] 93 := fw14
  refine wl_nil (q_n (k11 _ _ ?_))
  refine sx_seq fun K15 k15 => sx_region ?_
  refine sp rfl (px_field rfl xfld93x0) ?_
  refine sp rfl (px_load rfl (gw14.load1 rfl Tryd.isAgg9)) ?_
  refine mv rfl rfl (sp rfl (px_eqS rfl rfl) ?_)
  refine wl_nil (q_n (k15 _ _ ?_))
  refine sx_condP rfl (fun h40 => ?_) (fun h40 => ?_)
  ·
   refine sx_seq fun K16 k16 => sx_region ?_
   refine sp rfl (px_load rfl (gw14.loadA (vs := [.string ((tabI.getD k cr0).code), .string ((tabI.getD k cr0).number), .int .i64 ((tabI.getD k cr0).places), .int .i64 ((tabI.getD k cr0).cash)]) (look_lit rfl) Tryd.isAgg93 Tryd.sizeOf93)) ?_
   have f18 := fb2.ext cwl7
   have f19 := f18.ext cb12
   have f20 := f19.chg cw14 (by omega)
   refine sx_store (vs := [.string ((tabI.getD k cr0).code), .string ((tabI.getD k cr0).number), .int .i64 ((tabI.getD k cr0).places), .int .i64 ((tabI.getD k cr0).cash)]) rfl rfl f20 rfl Tryd.sizeOf93 (nbl rfl) (one_cons rfl (o3 rfl rfl rfl)) (fun w17 sw17 fw17 cw17 => ?_)
   have zw17 := cw17.size
   have gw17 : Blk w17 b2 [.string ((tabI.getD k cr0).code), .string ((tabI.getD k cr0).number), .int .i64 ((tabI.getD k cr0).places), .int .i64 ((tabI.getD k cr0).cash)] 93 := fw17
   refine av rfl rfl (wl_nil (q_n (k16 _ _ ?_)))
   refine sx_retc ?_
   refine q_br (q_r (q_r (q_br (q_r (sx_ret2 Tryd.results66 ⟨_, rfl, gw17.loadA (vs := [.string ((tabI.getD k cr0).code), .string ((tabI.getD k cr0).number), .int .i64 ((tabI.getD k cr0).places), .int .i64 ((tabI.getD k cr0).cash)]) (look_lit rfl) Tryd.isAgg93 Tryd.sizeOf93⟩ rfl ?_)))))
   have e := curOf_some (by rw [show tabI.length = 20 from rfl]; omega) hn h40
   have e2 := known_some (by rw [show tabI.length = 20 from rfl]; omega) hn h40
   rw [e]
   have q21 := Chg.step (l := 0) (h := 0) (Chg.zero (l := 0) (h := 0) ((cb2.t cwl7).t cb12)) cw14 (by omega)
   have q22 := Chg.step (l := 0) (h := 0) q21 cw17 (by omega)
   exact ⟨by simp [e2], q22⟩
  refine sx_skip ?_
  refine q_bn (q_n (k10 _ _ ?_))
  refine sx_region ?_
  refine sp rfl (px_add rfl rfl (by omega)) ?_
  refine mv rfl rfl (wl_nil ?_)
  have q23 := Chg.step (l := 0) (h := 0) (Chg.zero (l := 0) (h := 0) (cwl7.t cb12)) cw14 (by omega)
  exact fun a ha => ⟨_, by omega, (k + 1), ha.sub (Sub.c 0 rfl (.c 2 rfl (.c 6 rfl (.c 7 (look_int (t := 7) rfl (by first | omega | simp)) .nil)))), q23, rfl, by omega, upto_succ hn h40⟩
 refine sx_exit ?_
 refine q_e (q_e (q_bx (q_n (k4 _ _ ?_))))
 refine sx_seq fun K24 k24 => sx_region ?_
 refine sp rfl (px_build rfl (xbld93x  _)) ?_
 have f26 := fb2.ext cwl7
 refine sx_store (vs := [.string (⟨#[]⟩), .string (⟨#[]⟩), .int .i64 0, .int .i64 0]) rfl rfl f26 rfl Tryd.sizeOf93 (nbl rfl) (one_cons rfl (o3 rfl rfl rfl)) (fun w25 sw25 fw25 cw25 => ?_)
 have zw25 := cw25.size
 have gw25 : Blk w25 b2 [.string (⟨#[]⟩), .string (⟨#[]⟩), .int .i64 0, .int .i64 0] 93 := fw25
 refine av rfl rfl (wl_nil (q_n (k24 _ _ ?_)))
 refine sx_retc ?_
 refine sx_ret2 Tryd.results66 ⟨_, rfl, gw25.loadA (vs := [.string (⟨#[]⟩), .string (⟨#[]⟩), .int .i64 0, .int .i64 0]) (look_lit rfl) Tryd.isAgg93 Tryd.sizeOf93⟩ rfl ?_
 have e := curOf_none (s := s) (fun i hi => hn i (by rw [show tabI.length = 20 from rfl] at hi; omega))
 have e2 := known_none (s := s) (fun i hi => hn i (by rw [show tabI.length = 20 from rfl] at hi; omega))
 rw [e]
 have q27 := Chg.step (l := 0) (h := 0) (Chg.zero (l := 0) (h := 0) (cb2.t cwl7)) cw25 (by omega)
 exact ⟨by simp [e2, cr0], q27⟩

theorem c_iCurKnown {w : World} {s : ByteArray} (hG0 : Glob w) :
  Ret Tryd.prog 61 [.string s] w fun v w' => v = .bool (decide (Known s)) ∧ Chg 0 0 w w' := by
 refine sx_enter Tryd.func61 rfl Tryd.ntmps61 (nbl rfl) ?_
 refine sx_seq fun K1 k1 => sx_region ?_
 refine av rfl rfl (wl_nil (q_n (k1 _ _ ?_)))
 refine sx_seq fun K2 k2 => sx_region ?_
 refine mv rfl rfl (sx_call rfl rfl Tryd.call66 (c_currencyOf hG0) (fun v3 w3 p3 => ?_))
 obtain ⟨rfl, c3⟩ := p3
 have zw3 := c3.size
 refine mv rfl rfl (sp rfl (px_ex2 rfl rfl) ?_)
 refine sp rfl (px_ex2 rfl rfl) ?_
 refine sx_alloc [.string (⟨#[]⟩), .string (⟨#[]⟩), .int .i64 0, .int .i64 0] rfl Tryd.zeroValue93 rfl (fun b4 w5 eb4 sb4 fb4 cb4 => ?_)
 have zw5 := cb4.size
 refine sx_store (vs := [.string ((curOf s).code), .string ((curOf s).number), .int .i64 ((curOf s).places), .int .i64 ((curOf s).cash)]) rfl rfl fb4 rfl Tryd.sizeOf93 (nbl rfl) (one_cons rfl (o3 rfl rfl rfl)) (fun w6 sw6 fw6 cw6 => ?_)
 have zw6 := cw6.size
 have gw6 : Blk w6 b4 [.string ((curOf s).code), .string ((curOf s).number), .int .i64 ((curOf s).places), .int .i64 ((curOf s).cash)] 93 := fw6
 refine av rfl rfl (wl_nil (q_n (k2 _ _ ?_)))
 refine sx_seq fun K7 k7 => sx_region ?_
 refine mv rfl rfl (av rfl rfl (wl_nil (q_n (k7 _ _ ?_))))
 refine sx_retc ?_
 refine sx_ret1 Tryd.results61 rfl ?_
 have q8 := Chg.step (l := 0) (h := 0) (Chg.zero (l := 0) (h := 0) (c3.t cb4)) cw6 (by omega)
 exact ⟨rfl, q8⟩

theorem c_iNatOk {w : World} {va : Value} {lva uva : Nat} {zs : List Int} (hva : Sl w lva uva va (zs)) (h63 : zs.length ≤ 4611686018427387904) :
  Ret Tryd.prog 106 [va] w fun v w' => v = .bool (decide (NOk zs)) ∧ Chg 0 0 w w' := by
 have hva0 := hva.fit
 refine sx_enter Tryd.func106 rfl Tryd.ntmps106 (nbl rfl) ?_
 refine sx_seq fun K1 k1 => sx_region ?_
 refine av rfl rfl (wl_nil (q_n (k1 _ _ ?_)))
 refine sx_seq fun K2 k2 => ?_
 refine sx_seq fun K3 k3 => sx_region ?_
 refine mv rfl rfl (sp rfl (px_len rfl Tryd.underlying22 hva0) ?_)
 refine sp rfl (px_gt rfl rfl) ?_
 refine mv rfl rfl ?_
 refine sx_tmpP (t := 8) rfl (fun h13 => ?_) (fun h13 => ?_)
 ·
  refine sx_guardF rfl rfl rfl rfl rfl rfl ?_
  refine sx_guardF rfl rfl rfl rfl rfl rfl ?_
  refine sx_guardF rfl rfl rfl rfl rfl rfl ?_
  refine sx_guardF rfl rfl rfl rfl rfl rfl ?_
  refine sx_guardFU rfl rfl rfl rfl rfl ?_
  refine sx_guardFU rfl rfl rfl rfl rfl ?_
  refine sx_guardFU rfl rfl rfl rfl rfl ?_
  refine sx_guardFU rfl rfl rfl rfl rfl ?_
  refine sx_guardFU rfl rfl rfl rfl rfl ?_
  refine sx_guardFU rfl rfl rfl rfl rfl ?_
  refine sx_guardFU rfl rfl rfl rfl rfl ?_
  refine sx_guardF rfl rfl rfl rfl rfl rfl ?_
  refine sp rfl (px_pick rfl rfl) ?_
  refine wl_nil (q_n (k3 _ _ ?_))
  refine sx_sub (Sub.c 0 rfl (.c 2 rfl (.c 21 rfl .nil))) ?_
  refine sx_condT rfl ?_
  refine sx_seq fun K4 k4 => sx_region ?_
  refine av rfl rfl (wl_nil (q_n (k4 _ _ ?_)))
  refine sx_retc ?_
  refine q_r (sx_ret1 Tryd.results106 rfl ?_)
  exact ⟨bFalse (fun h => by first | (have h1 := h.2.1; omega) | exact h.2.2 ((last_getD (by omega)).2 (by assumption))), (Chg.refl 0 0 _)⟩
 refine sx_guardT rfl rfl rfl ?_
 refine mv rfl rfl ?_
 refine sx_guardT rfl rfl rfl ?_
 refine sp rfl (px_len rfl Tryd.underlying22 hva0) ?_
 refine sx_guardT rfl rfl rfl ?_
 refine sp rfl (px_gt rfl rfl) ?_
 refine sx_guardT rfl rfl rfl ?_
 refine mv rfl rfl ?_
 refine sx_tmpP (t := 12) rfl (fun h13x1 => ?_) (fun h13x1 => ?_)
 ·
  refine sx_guardT rfl rfl rfl ?_
  refine mv rfl rfl ?_
  refine sx_guardT rfl rfl rfl ?_
  refine mv rfl rfl ?_
  refine sx_guardT rfl rfl rfl ?_
  refine sp rfl (px_len rfl Tryd.underlying22 hva0) ?_
  refine sx_guardT rfl rfl rfl ?_
  refine sp rfl (px_sub rfl rfl (by omega)) ?_
  refine sx_guardT rfl rfl rfl ?_
  refine sp rfl (px_index1 (j := (zs.length - 1)) rfl rfl (by omega) Tryd.underlying22 Tryd.sizeOf3 hva0 (by omega)) ?_
  refine sx_guardT rfl rfl rfl ?_
  refine sp rfl (px_load rfl (hva0.load1 (at_int (by omega)) Tryd.isAgg3)) ?_
  refine sx_guardT rfl rfl rfl ?_
  refine sp rfl (px_eq rfl rfl) ?_
  refine sx_guardT rfl rfl rfl ?_
  refine sp rfl (px_pick rfl rfl) ?_
  refine sp rfl (px_pick rfl rfl) ?_
  refine wl_nil (q_n (k3 _ _ ?_))
  refine sx_sub (Sub.c 0 rfl (.c 2 rfl (.c 21 rfl .nil))) ?_
  refine sx_condP rfl (fun h13x2 => ?_) (fun h13x2 => ?_)
  ·
   refine sx_seq fun K5 k5 => sx_region ?_
   refine av rfl rfl (wl_nil (q_n (k5 _ _ ?_)))
   refine sx_retc ?_
   refine q_r (sx_ret1 Tryd.results106 rfl ?_)
   exact ⟨bFalse (fun h => by first | (have h1 := h.2.1; omega) | exact h.2.2 ((last_getD (by omega)).2 (by assumption))), (Chg.refl 0 0 _)⟩
  refine sx_skip ?_
  refine q_n (k2 _ _ ?_)
  refine sx_seq fun K6 k6 => ?_
  refine sx_seq fun K7 k7 => sx_region ?_
  refine mv rfl rfl (sp rfl (px_len rfl Tryd.underlying22 hva0) ?_)
  refine mv rfl rfl (wl_nil (q_n (k7 _ _ ?_)))
  refine sx_block ?_
  refine sx_loop (fun mm aa w' => ∃ (k : Nat), Agr 35 [(22, va), (23, .int .i64 ↑zs.length), (24, .int .i64 ↑k)] aa ∧ Chg 0 0 w w' ∧ (mm = zs.length - k) ∧ (k ≤ zs.length) ∧ (∀ i, i < k → 0 ≤ zs.getD i 0 ∧ zs.getD i 0 < 1000000000)) (_) (fun a ha => ⟨0, ha.sub (Sub.c 22 rfl (.c 23 (look_int (t := 23) rfl (by first | omega | simp)) (.c 24 (look_int (t := 24) rfl (by first | omega | simp)) .nil))), Chg.refl _ _ _, rfl, by omega, fun i h => by omega⟩) ?_
  rintro mm aa wl8 ⟨k, hAwl8, cwl8, hm, hk, hall⟩
  refine (show cw Tryd.prog 35 _ _ _ wl8 from ?_) aa hAwl8
  clear hAwl8
  have zwl8 := cwl8.size
  refine sx_seq fun K9 k9 => sx_region ?_
  refine sp rfl (px_lt rfl rfl) ?_
  refine wl_nil (q_n (k9 _ _ ?_))
  refine sx_seq fun K10 k10 => ?_
  refine sx_condP rfl (fun h16 => ?_) (fun h16 => ?_)
  ·
   refine sx_skip ?_
   refine q_n (k10 _ _ ?_)
   refine sx_seq fun K11 k11 => ?_
   refine sx_block ?_
   refine sx_seq fun K12 k12 => sx_region ?_
   have f13 := hva0.ext cwl8
   refine sp rfl (px_index1 (j := k) rfl rfl (by omega) Tryd.underlying22 Tryd.sizeOf3 f13 (by omega)) ?_
   refine sp rfl (px_load rfl (f13.load1 (at_int (by omega)) Tryd.isAgg3)) ?_
   refine av rfl rfl (wl_nil (q_n (k12 _ _ ?_)))
   refine sx_seq fun K14 k14 => sx_region ?_
   refine mv rfl rfl (sp rfl (px_lt rfl rfl) ?_)
   refine mv rfl rfl ?_
   refine sx_tmpP (t := 30) rfl (fun h17 => ?_) (fun h17 => ?_)
   ·
    refine sx_guardF rfl rfl rfl rfl rfl rfl ?_
    refine sx_guardF rfl rfl rfl rfl rfl rfl ?_
    refine sp rfl (px_pick rfl rfl) ?_
    refine wl_nil (q_n (k14 _ _ ?_))
    refine sx_condT rfl ?_
    refine sx_seq fun K15 k15 => sx_region ?_
    refine av rfl rfl (wl_nil (q_n (k15 _ _ ?_)))
    refine sx_retc ?_
    refine q_br (q_r (q_r (q_br (q_r (sx_ret1 Tryd.results106 rfl ?_)))))
    exact ⟨bFalse (fun h => by have h1 := h.1.getD k; omega), cwl8⟩
   refine sx_guardT rfl rfl rfl ?_
   refine mv rfl rfl ?_
   refine sx_guardT rfl rfl rfl ?_
   refine sp rfl (px_ge rfl rfl) ?_
   refine sp rfl (px_pick rfl rfl) ?_
   refine wl_nil (q_n (k14 _ _ ?_))
   refine sx_condP rfl (fun h17x1 => ?_) (fun h17x1 => ?_)
   ·
    refine sx_seq fun K16 k16 => sx_region ?_
    refine av rfl rfl (wl_nil (q_n (k16 _ _ ?_)))
    refine sx_retc ?_
    refine q_br (q_r (q_r (q_br (q_r (sx_ret1 Tryd.results106 rfl ?_)))))
    exact ⟨bFalse (fun h => by have h1 := h.1.getD k; omega), cwl8⟩
   refine sx_skip ?_
   refine q_bn (q_n (k11 _ _ ?_))
   refine sx_region ?_
   refine sp rfl (px_add rfl rfl (by omega)) ?_
   refine mv rfl rfl (wl_nil ?_)
   exact fun a ha => ⟨_, by omega, (k + 1), ha.sub (Sub.c 22 rfl (.c 23 rfl (.c 24 (look_int (t := 24) rfl (by first | omega | simp)) .nil))), cwl8, rfl, by omega, lm_succ hall (by omega)⟩
  refine sx_exit ?_
  refine q_e (q_e (q_bx (q_n (k6 _ _ ?_))))
  refine sx_seq fun K17 k17 => sx_region ?_
  refine av rfl rfl (wl_nil (q_n (k17 _ _ ?_)))
  refine sx_retc ?_
  refine sx_ret1 Tryd.results106 rfl ?_
  have ek : k = zs.length := by omega
  have hz : Lm zs := lm_mem (by rw [← ek]; exact hall)
  exact ⟨bTrue (NOk_mk hz (by omega) (by first | exact .inl (by omega) | exact .inr (by assumption))), cwl8⟩
 refine sx_guardF rfl rfl rfl rfl rfl rfl ?_
 refine sx_guardF rfl rfl rfl rfl rfl rfl ?_
 refine sx_guardF rfl rfl rfl rfl rfl rfl ?_
 refine sx_guardF rfl rfl rfl rfl rfl rfl ?_
 refine sx_guardF rfl rfl rfl rfl rfl rfl ?_
 refine sx_guardF rfl rfl rfl rfl rfl rfl ?_
 refine sx_guardF rfl rfl rfl rfl rfl rfl ?_
 refine sx_guardT rfl rfl rfl ?_
 refine sp rfl (px_pick rfl rfl) ?_
 refine sp rfl (px_pick rfl rfl) ?_
 refine wl_nil (q_n (k3 _ _ ?_))
 refine sx_sub (Sub.c 0 rfl (.c 2 rfl (.c 21 rfl .nil))) ?_
 refine sx_condF rfl ?_
 refine sx_skip ?_
 refine q_n (k2 _ _ ?_)
 refine sx_seq fun K18 k18 => ?_
 refine sx_seq fun K19 k19 => sx_region ?_
 refine mv rfl rfl (sp rfl (px_len rfl Tryd.underlying22 hva0) ?_)
 refine mv rfl rfl (wl_nil (q_n (k19 _ _ ?_)))
 refine sx_block ?_
 refine sx_loop (fun mm aa w' => ∃ (k : Nat), Agr 35 [(22, va), (23, .int .i64 ↑zs.length), (24, .int .i64 ↑k)] aa ∧ Chg 0 0 w w' ∧ (mm = zs.length - k) ∧ (k ≤ zs.length) ∧ (∀ i, i < k → 0 ≤ zs.getD i 0 ∧ zs.getD i 0 < 1000000000)) (_) (fun a ha => ⟨0, ha.sub (Sub.c 22 rfl (.c 23 (look_int (t := 23) rfl (by first | omega | simp)) (.c 24 (look_int (t := 24) rfl (by first | omega | simp)) .nil))), Chg.refl _ _ _, rfl, by omega, fun i h => by omega⟩) ?_
 rintro mm aa wl20 ⟨k, hAwl20, cwl20, hm, hk, hall⟩
 refine (show cw Tryd.prog 35 _ _ _ wl20 from ?_) aa hAwl20
 clear hAwl20
 have zwl20 := cwl20.size
 refine sx_seq fun K21 k21 => sx_region ?_
 refine sp rfl (px_lt rfl rfl) ?_
 refine wl_nil (q_n (k21 _ _ ?_))
 refine sx_seq fun K22 k22 => ?_
 refine sx_condP rfl (fun h16 => ?_) (fun h16 => ?_)
 ·
  refine sx_skip ?_
  refine q_n (k22 _ _ ?_)
  refine sx_seq fun K23 k23 => ?_
  refine sx_block ?_
  refine sx_seq fun K24 k24 => sx_region ?_
  have f25 := hva0.ext cwl20
  refine sp rfl (px_index1 (j := k) rfl rfl (by omega) Tryd.underlying22 Tryd.sizeOf3 f25 (by omega)) ?_
  refine sp rfl (px_load rfl (f25.load1 (at_int (by omega)) Tryd.isAgg3)) ?_
  refine av rfl rfl (wl_nil (q_n (k24 _ _ ?_)))
  refine sx_seq fun K26 k26 => sx_region ?_
  refine mv rfl rfl (sp rfl (px_lt rfl rfl) ?_)
  refine mv rfl rfl ?_
  refine sx_tmpP (t := 30) rfl (fun h17 => ?_) (fun h17 => ?_)
  ·
   refine sx_guardF rfl rfl rfl rfl rfl rfl ?_
   refine sx_guardF rfl rfl rfl rfl rfl rfl ?_
   refine sp rfl (px_pick rfl rfl) ?_
   refine wl_nil (q_n (k26 _ _ ?_))
   refine sx_condT rfl ?_
   refine sx_seq fun K27 k27 => sx_region ?_
   refine av rfl rfl (wl_nil (q_n (k27 _ _ ?_)))
   refine sx_retc ?_
   refine q_br (q_r (q_r (q_br (q_r (sx_ret1 Tryd.results106 rfl ?_)))))
   exact ⟨bFalse (fun h => by have h1 := h.1.getD k; omega), cwl20⟩
  refine sx_guardT rfl rfl rfl ?_
  refine mv rfl rfl ?_
  refine sx_guardT rfl rfl rfl ?_
  refine sp rfl (px_ge rfl rfl) ?_
  refine sp rfl (px_pick rfl rfl) ?_
  refine wl_nil (q_n (k26 _ _ ?_))
  refine sx_condP rfl (fun h17x1 => ?_) (fun h17x1 => ?_)
  ·
   refine sx_seq fun K28 k28 => sx_region ?_
   refine av rfl rfl (wl_nil (q_n (k28 _ _ ?_)))
   refine sx_retc ?_
   refine q_br (q_r (q_r (q_br (q_r (sx_ret1 Tryd.results106 rfl ?_)))))
   exact ⟨bFalse (fun h => by have h1 := h.1.getD k; omega), cwl20⟩
  refine sx_skip ?_
  refine q_bn (q_n (k23 _ _ ?_))
  refine sx_region ?_
  refine sp rfl (px_add rfl rfl (by omega)) ?_
  refine mv rfl rfl (wl_nil ?_)
  exact fun a ha => ⟨_, by omega, (k + 1), ha.sub (Sub.c 22 rfl (.c 23 rfl (.c 24 (look_int (t := 24) rfl (by first | omega | simp)) .nil))), cwl20, rfl, by omega, lm_succ hall (by omega)⟩
 refine sx_exit ?_
 refine q_e (q_e (q_bx (q_n (k18 _ _ ?_))))
 refine sx_seq fun K29 k29 => sx_region ?_
 refine av rfl rfl (wl_nil (q_n (k29 _ _ ?_)))
 refine sx_retc ?_
 refine sx_ret1 Tryd.results106 rfl ?_
 have ek : k = zs.length := by omega
 have hz : Lm zs := lm_mem (by rw [← ek]; exact hall)
 exact ⟨bTrue (NOk_mk hz (by omega) (by first | exact .inl (by omega) | exact .inr (by assumption))), cwl20⟩

theorem c_iIntOk {w : World} {n1 : Bool} {v1 : Value} {lv1 uv1 : Nat} {z1 : List Int} (hv1 : Sl w lv1 uv1 v1 (z1)) (h63 : z1.length ≤ 4611686018427387904) :
  Ret Tryd.prog 62 [.agg #[.bool n1, v1]] w fun v w' => v = .bool (decide (IOk n1 z1)) ∧ Chg 0 0 w w' := by
 have hv10 := hv1.fit
 refine sx_enter Tryd.func62 rfl Tryd.ntmps62 (nbl rfl) ?_
 refine sx_seq fun K1 k1 => sx_region ?_
 refine sx_box [.bool n1, v1] rfl rfl rfl (fun b2 w3 eb2 sb2 fb2 cb2 => ?_)
 have zw3 := cb2.size
 refine av rfl rfl (wl_nil (q_n (k1 _ _ ?_)))
 refine sx_seq fun K4 k4 => sx_region ?_
 refine sp rfl (px_field rfl xfld29x1) ?_
 refine sp rfl (px_load rfl (fb2.load1 rfl Tryd.isAgg22)) ?_
 have f5 := hv10.ext cb2
 refine sx_call rfl rfl Tryd.call106 (c_iNatOk f5 (by omega)) (fun v6 w6 p6 => ?_)
 obtain ⟨rfl, c6⟩ := p6
 have zw6 := c6.size
 refine mv rfl rfl ?_
 refine sx_tmpP (t := 6) rfl (fun h10 => ?_) (fun h10 => ?_)
 ·
  refine sx_guardT rfl rfl rfl ?_
  refine sp rfl (px_field rfl xfld29x0) ?_
  refine sx_guardT rfl rfl rfl ?_
  have f7 := fb2.ext c6
  refine sp rfl (px_load rfl (f7.load1 rfl Tryd.isAgg4)) ?_
  refine sx_guardT rfl rfl rfl ?_
  refine sp rfl (px_not rfl) ?_
  refine sx_guardT rfl rfl rfl ?_
  refine mv rfl rfl ?_
  refine sx_tmpB (t := 10) rfl (fun h10x1 => ?_) (fun h10x1 => ?_)
  ·
   refine sx_guardF rfl rfl rfl rfl rfl rfl ?_
   refine sx_guardF rfl rfl rfl rfl rfl rfl ?_
   refine sx_guardF rfl rfl rfl rfl rfl rfl ?_
   refine sx_guardF rfl rfl rfl rfl rfl rfl ?_
   refine sx_guardT rfl rfl rfl ?_
   refine sp rfl (px_pick rfl rfl) ?_
   refine sp rfl (px_pick rfl rfl) ?_
   refine av rfl rfl (wl_nil (q_n (k4 _ _ ?_)))
   refine sx_sub (Sub.c 2 rfl .nil) ?_
   refine sx_retc ?_
   refine sx_ret1 Tryd.results62 rfl ?_
   exact ⟨(by first | exact bTrue (by grind [IOk]) | exact bFalse (by grind [IOk]) | exact bIff (by grind [IOk])), (cb2.t c6)⟩
  refine sx_guardT rfl rfl rfl ?_
  refine sp rfl (px_field rfl xfld29x1) ?_
  refine sx_guardT rfl rfl rfl ?_
  refine sp rfl (px_load rfl (f7.load1 rfl Tryd.isAgg22)) ?_
  refine sx_guardT rfl rfl rfl ?_
  have f8 := f5.ext c6
  refine sp rfl (px_len rfl Tryd.underlying22 f8) ?_
  refine sx_guardT rfl rfl rfl ?_
  refine sp rfl (px_gt rfl rfl) ?_
  refine sx_guardT rfl rfl rfl ?_
  refine sp rfl (px_pick rfl rfl) ?_
  refine sp rfl (px_pick rfl rfl) ?_
  refine av rfl rfl (wl_nil (q_n (k4 _ _ ?_)))
  refine sx_sub (Sub.c 2 rfl .nil) ?_
  refine sx_retc ?_
  refine sx_ret1 Tryd.results62 rfl ?_
  exact ⟨(by first | exact bTrue (by grind [IOk]) | exact bFalse (by grind [IOk]) | exact bIff (by grind [IOk])), (cb2.t c6)⟩
 refine sx_guardF rfl rfl rfl rfl rfl rfl ?_
 refine sx_guardF rfl rfl rfl rfl rfl rfl ?_
 refine sx_guardF rfl rfl rfl rfl rfl rfl ?_
 refine sx_guardF rfl rfl rfl rfl rfl rfl ?_
 refine sx_guardFU rfl rfl rfl rfl rfl ?_
 refine sx_guardFU rfl rfl rfl rfl rfl ?_
 refine sx_guardFU rfl rfl rfl rfl rfl ?_
 refine sx_guardFU rfl rfl rfl rfl rfl ?_
 refine sx_guardF rfl rfl rfl rfl rfl rfl ?_
 refine sp rfl (px_pick rfl rfl) ?_
 refine av rfl rfl (wl_nil (q_n (k4 _ _ ?_)))
 refine sx_sub (Sub.c 2 rfl .nil) ?_
 refine sx_retc ?_
 refine sx_ret1 Tryd.results62 rfl ?_
 exact ⟨(by first | exact bTrue (by grind [IOk]) | exact bFalse (by grind [IOk]) | exact bIff (by grind [IOk])), (cb2.t c6)⟩

theorem c_iMoneyOk {w : World} {c1 : ByteArray} {n1 : Bool} {v1 : Value} {lv1 uv1 : Nat} {z1 : List Int} (hG0 : Glob w) (hv1 : Sl w lv1 uv1 v1 (z1)) (h63 : z1.length ≤ 4611686018427387904) :
  Ret Tryd.prog 18 [.agg #[.string c1, .bool n1, v1]] w fun v w' => v = .bool (decide (MOk c1 n1 z1)) ∧ Chg 0 0 w w' := by
 have hv10 := hv1.fit
 refine sx_enter Tryd.func18 rfl Tryd.ntmps18 (nbl rfl) ?_
 refine sx_seq fun K1 k1 => sx_region ?_
 refine sx_box [.string c1, .bool n1, v1] rfl rfl rfl (fun b2 w3 eb2 sb2 fb2 cb2 => ?_)
 have zw3 := cb2.size
 refine av rfl rfl (wl_nil (q_n (k1 _ _ ?_)))
 refine sx_seq fun K4 k4 => sx_region ?_
 refine sp rfl (px_field rfl xfld31x0) ?_
 refine sp rfl (px_load rfl (fb2.load1 rfl Tryd.isAgg9)) ?_
 have f5 := hG0.ext cb2
 refine sx_call rfl rfl Tryd.call61 (c_iCurKnown f5) (fun v6 w6 p6 => ?_)
 obtain ⟨rfl, c6⟩ := p6
 have zw6 := c6.size
 refine mv rfl rfl ?_
 refine sx_tmpP (t := 6) rfl (fun h14 => ?_) (fun h14 => ?_)
 ·
  refine sx_guardT rfl rfl rfl ?_
  refine sp rfl (px_field rfl xfld31x1) ?_
  refine sx_guardT rfl rfl rfl ?_
  have f7 := fb2.ext c6
  refine sp rfl (px_load rfl (f7.loadA (vs := [.bool n1, v1]) (look_lit rfl) Tryd.isAgg29 Tryd.sizeOf29)) ?_
  refine sx_guardT rfl rfl rfl ?_
  have f8 := hv10.ext cb2
  have f9 := f8.ext c6
  refine sx_call rfl rfl Tryd.call62 (c_iIntOk f9 (by omega)) (fun v10 w10 p10 => ?_)
  obtain ⟨rfl, c10⟩ := p10
  have zw10 := c10.size
  refine sp rfl (px_pick rfl rfl) ?_
  refine mv rfl rfl ?_
  refine sx_tmpP (t := 11) rfl (fun h14x1 => ?_) (fun h14x1 => ?_)
  ·
   refine sx_guardT rfl rfl rfl ?_
   refine sp rfl (px_field rfl xfld31x1) ?_
   refine sx_guardT rfl rfl rfl ?_
   refine sp rfl (px_field rfl xfld29x1) ?_
   refine sx_guardT rfl rfl rfl ?_
   have f11 := f7.ext c10
   refine sp rfl (px_load rfl (f11.load1 rfl Tryd.isAgg22)) ?_
   refine sx_guardT rfl rfl rfl ?_
   have f12 := f9.ext c10
   refine sp rfl (px_len rfl Tryd.underlying22 f12) ?_
   refine sx_guardT rfl rfl rfl ?_
   refine sp rfl (px_le rfl rfl) ?_
   refine sp rfl (px_pick rfl rfl) ?_
   refine av rfl rfl (wl_nil (q_n (k4 _ _ ?_)))
   refine sx_sub (Sub.c 2 rfl .nil) ?_
   refine sx_retc ?_
   refine sx_ret1 Tryd.results18 rfl ?_
   exact ⟨(by first | exact bTrue (by grind [MOk]) | exact bFalse (by grind [MOk]) | exact bIff (by grind [MOk])), ((cb2.t c6).t c10)⟩
  refine sx_guardF rfl rfl rfl rfl rfl rfl ?_
  refine sx_guardF rfl rfl rfl rfl rfl rfl ?_
  refine sx_guardF rfl rfl rfl rfl rfl rfl ?_
  refine sx_guardF rfl rfl rfl rfl rfl rfl ?_
  refine sx_guardF rfl rfl rfl rfl rfl rfl ?_
  refine sp rfl (px_pick rfl rfl) ?_
  refine av rfl rfl (wl_nil (q_n (k4 _ _ ?_)))
  refine sx_sub (Sub.c 2 rfl .nil) ?_
  refine sx_retc ?_
  refine sx_ret1 Tryd.results18 rfl ?_
  exact ⟨(by first | exact bTrue (by grind [MOk]) | exact bFalse (by grind [MOk]) | exact bIff (by grind [MOk])), ((cb2.t c6).t c10)⟩
 refine sx_guardF rfl rfl rfl rfl rfl rfl ?_
 refine sx_guardF rfl rfl rfl rfl rfl rfl ?_
 refine sx_guardF rfl rfl rfl rfl rfl rfl ?_
 refine sp rfl (px_pick rfl rfl) ?_
 refine mv rfl rfl ?_
 refine sx_guardF rfl rfl rfl rfl rfl rfl ?_
 refine sx_guardF rfl rfl rfl rfl rfl rfl ?_
 refine sx_guardF rfl rfl rfl rfl rfl rfl ?_
 refine sx_guardF rfl rfl rfl rfl rfl rfl ?_
 refine sx_guardF rfl rfl rfl rfl rfl rfl ?_
 refine sp rfl (px_pick rfl rfl) ?_
 refine av rfl rfl (wl_nil (q_n (k4 _ _ ?_)))
 refine sx_sub (Sub.c 2 rfl .nil) ?_
 refine sx_retc ?_
 refine sx_ret1 Tryd.results18 rfl ?_
 exact ⟨(by first | exact bTrue (by grind [MOk]) | exact bFalse (by grind [MOk]) | exact bIff (by grind [MOk])), (cb2.t c6)⟩

theorem c_trim {w : World} {va : Value} {lva uva : Nat} {zs : List Int} (hva : OwnI w lva uva va intT (zs)) (hz : Lm zs) (h63 : zs.length ≤ 1000000) :
  Ret Tryd.prog 126 [va] w fun v w' => ∃ s, v = s ∧ OwnI w' (lva) (uva) s intT (dg (vl zs)) ∧ Chg 0 0 w w' := by
 refine sx_enter Tryd.func126 rfl Tryd.ntmps126 (nbl rfl) ?_
 refine sx_seq fun K1 k1 => sx_region ?_
 refine av rfl rfl (wl_nil (q_n (k1 _ _ ?_)))
 refine sx_seq fun K2 k2 => ?_
 refine sx_block ?_
 refine sx_loop (fun mm aa w' => ∃ (k : Nat) (s : Value), Agr 21 [(0, s)] aa ∧ Chg 0 0 w w' ∧ Own w' lva uva s intT ((zs.take k).length) 1 ((zs.take k).map (Value.int .i64)) ∧ (mm = k) ∧ (k ≤ zs.length) ∧ (vl (zs.take k) = vl zs)) (_) (fun a ha => ⟨zs.length, va, ha.sub (Sub.c 0 rfl .nil), Chg.refl _ _ _, (by rw [List.take_length]; exact hva), rfl, by omega, vl_take_all zs⟩) ?_
 rintro mm aa wl3 ⟨k, s, hAwl3, cwl3, hs_s, hm, hk, hv⟩
 refine (show cw Tryd.prog 21 _ _ _ wl3 from ?_) aa hAwl3
 clear hAwl3
 have zwl3 := cwl3.size
 have hlt : (zs.take k).length = k := by rw [List.length_take]; omega
 refine sx_seq fun K4 k4 => ?_
 refine sx_seq fun K5 k5 => sx_region ?_
 refine mv rfl rfl (sp rfl (px_len rfl Tryd.underlying22 hs_s.sv) ?_)
 refine sp rfl (px_gt rfl rfl) ?_
 refine mv rfl rfl ?_
 refine sx_tmpP (t := 6) rfl (fun h29 => ?_) (fun h29 => ?_)
 ·
  refine sx_guardT rfl rfl rfl ?_
  refine mv rfl rfl ?_
  refine sx_guardT rfl rfl rfl ?_
  refine mv rfl rfl ?_
  refine sx_guardT rfl rfl rfl ?_
  refine sp rfl (px_len rfl Tryd.underlying22 hs_s.sv) ?_
  refine sx_guardT rfl rfl rfl ?_
  refine sp rfl (px_sub rfl rfl (by omega)) ?_
  refine sx_guardT rfl rfl rfl ?_
  refine sp rfl (px_index1 (j := (k - 1)) rfl rfl (by omega) Tryd.underlying22 Tryd.sizeOf3 hs_s.sv (by omega)) ?_
  refine sx_guardT rfl rfl rfl ?_
  refine sp rfl (px_load rfl (hs_s.sv.load1 (at_int (by omega)) Tryd.isAgg3)) ?_
  refine sx_guardT rfl rfl rfl ?_
  refine sp rfl (px_eq rfl rfl) ?_
  refine sp rfl (px_pick rfl rfl) ?_
  refine wl_nil (q_n (k5 _ _ ?_))
  refine sx_condP rfl (fun h29x1 => ?_) (fun h29x1 => ?_)
  ·
   refine sx_skip ?_
   refine q_n (k4 _ _ ?_)
   refine sx_block ?_
   refine sx_region ?_
   refine mv rfl rfl (mv rfl rfl (sp rfl (px_len rfl Tryd.underlying22 hs_s.sv) ?_))
   refine sp rfl (px_sub rfl rfl (by omega)) ?_
   refine sp rfl (px_sliceTo (h := (k - 1)) rfl rfl (by omega) Tryd.underlying22 Tryd.sizeOf3 hs_s.sv (by omega)) ?_
   refine av rfl rfl (wl_nil ?_)
   exact q_bn (fun a ha => ⟨_, by omega, (k - 1), (vtake s (k - 1)), ha.sub (Sub.c 0 rfl .nil), cwl3, (by have hh := (Own.takeI hs_s (h := (k - 1)) (by omega)); rwa [List.take_take, Nat.min_eq_left (by omega)] at hh), rfl, by omega, trim_step (by omega) hk h29x1 hv⟩)
  refine sx_exit ?_
  refine q_e (q_e (q_bx (q_n (k2 _ _ ?_))))
  refine sx_seq fun K6 k6 => sx_region ?_
  refine mv rfl rfl (av rfl rfl (wl_nil (q_n (k6 _ _ ?_))))
  refine sx_sub (Sub.c 2 rfl .nil) ?_
  refine sx_retc ?_
  refine sx_ret1 Tryd.results126 rfl ?_
  have hd := trim_done hz hk hv (by first | exact .inl (by omega) | exact .inr (by assumption))
  rw [← hd]
  exact ⟨_, rfl, hs_s, cwl3⟩
 refine sx_guardF rfl rfl rfl rfl rfl rfl ?_
 refine sx_guardF rfl rfl rfl rfl rfl rfl ?_
 refine sx_guardF rfl rfl rfl rfl rfl rfl ?_
 refine sx_guardF rfl rfl rfl rfl rfl rfl ?_
 refine sx_guardF rfl rfl rfl rfl rfl rfl ?_
 refine sx_guardF rfl rfl rfl rfl rfl rfl ?_
 refine sx_guardF rfl rfl rfl rfl rfl rfl ?_
 refine sp rfl (px_pick rfl rfl) ?_
 refine wl_nil (q_n (k5 _ _ ?_))
 refine sx_condF rfl ?_
 refine sx_exit ?_
 refine q_e (q_e (q_bx (q_n (k2 _ _ ?_))))
 refine sx_seq fun K7 k7 => sx_region ?_
 refine mv rfl rfl (av rfl rfl (wl_nil (q_n (k7 _ _ ?_))))
 refine sx_sub (Sub.c 2 rfl .nil) ?_
 refine sx_retc ?_
 refine sx_ret1 Tryd.results126 rfl ?_
 have hd := trim_done hz hk hv (by first | exact .inl (by omega) | exact .inr (by assumption))
 rw [← hd]
 exact ⟨_, rfl, hs_s, cwl3⟩

end Go.Proofs.YtomfgkfpihemlaaDoor
