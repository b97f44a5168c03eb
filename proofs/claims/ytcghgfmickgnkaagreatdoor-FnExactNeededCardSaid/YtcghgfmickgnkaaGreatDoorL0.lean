/- Contracts of functions of the program: what each call returns, and that it changes nothing that was. Conditions: as each says. -/
import Derived.Test.YtcghgfmickgnkaaGreatDoorTy
import Derived.Test.YtcghgfmickgnkaaGreatDoorNatP
import Derived.Test.YtcghgfmickgnkaaGreatDoorSxD
import Derived.Test.YtcghgfmickgnkaaGreatDoorPair
import Derived.Test.YtcghgfmickgnkaaGreatDoorSxP
import Derived.Test.YtcghgfmickgnkaaGreatDoorRm
set_option linter.unusedVariables false
set_option linter.unusedSimpArgs false
namespace Go.Proofs.YtcghgfmickgnkaaGreatDoor
open Go Go.RowKit
set_option maxRecDepth 100000
theorem c_szIntS {w : World} {va : Value} {lva uva : Nat} {zs : List Int} {n : Int} (hva : Sl w lva uva va (zs)) (bzs : zs.length ≤ 9223372036854775807) (hn : 0 ≤ n ∧ n ≤ 1048576) :
  Ret Tryz.prog 94 [va, .int .i64 n] w fun v w' => ∃ r, v = .int .i64 (r) ∧ (r < 0 ∨ (0 ≤ r ∧ r = n - (zs).length)) ∧ Chg 0 0 w w' := by
 have hva0 := hva.fit
 refine sx_enter Tryz.func94 rfl Tryz.ntmps94 (nbl rfl) ?_
 refine sx_seq fun K1 k1 => sx_region ?_
 refine av rfl rfl (wl_nil (q_n (k1 _ _ ?_)))
 refine sx_seq fun K2 k2 => sx_region ?_
 refine mv rfl rfl (mv rfl rfl (sp rfl (px_len rfl Tryz.underlying26 hva0) ?_))
 refine sp rfl (px_sub rfl rfl (by omega)) ?_
 refine av rfl rfl (wl_nil (q_n (k2 _ _ ?_)))
 refine sx_seq fun K3 k3 => ?_
 refine sx_seq fun K4 k4 => sx_region ?_
 refine mv rfl rfl (sp rfl (px_lt rfl rfl) ?_)
 refine wl_nil (q_n (k4 _ _ ?_))
 refine sx_condP rfl (fun h248 => ?_) (fun h248 => ?_)
 ·
  refine sx_seq fun K5 k5 => sx_region ?_
  refine av rfl rfl (wl_nil (q_n (k5 _ _ ?_)))
  refine sx_retc ?_
  refine q_r (sx_ret1 Tryz.results94 rfl ?_)
  exact ⟨_, rfl, by omega, (Chg.refl 0 0 _)⟩
 refine sx_skip ?_
 refine q_n (k3 _ _ ?_)
 refine sx_seq fun K6 k6 => sx_region ?_
 refine mv rfl rfl (av rfl rfl (wl_nil (q_n (k6 _ _ ?_))))
 refine sx_retc ?_
 refine sx_ret1 Tryz.results94 rfl ?_
 exact ⟨_, rfl, by omega, (Chg.refl 0 0 _)⟩

theorem c_szSigned {w : World} {n1 : Bool} {v1 : Value} {lv1 uv1 : Nat} {z1 : List Int} {n : Int} (hv1 : Sl w lv1 uv1 v1 (z1)) (bz1 : z1.length ≤ 9223372036854775807) (hn : 0 ≤ n ∧ n ≤ 1048576) :
  Ret Tryz.prog 56 [.agg #[.bool n1, v1], .int .i64 n] w fun v w' => ∃ r, v = .int .i64 (r) ∧ (r < 0 ∨ (0 ≤ r ∧ r = n - (z1).length)) ∧ Chg 0 0 w w' := by
 have hv10 := hv1.fit
 refine sx_enter Tryz.func56 rfl Tryz.ntmps56 (nbl rfl) ?_
 refine sx_seq fun K1 k1 => sx_region ?_
 refine sx_box [.bool n1, v1] rfl rfl rfl (fun b2 w3 eb2 sb2 fb2 cb2 => ?_)
 have zw3 := cb2.size
 refine av rfl rfl (wl_nil (q_n (k1 _ _ ?_)))
 refine sx_seq fun K4 k4 => sx_region ?_
 refine sp rfl (px_field rfl xfld42x1) ?_
 refine sp rfl (px_load rfl (fb2.load1 rfl Tryz.isAgg26)) ?_
 refine mv rfl rfl ?_
 have f5 := hv10.ext cb2
 refine sx_call rfl rfl Tryz.call94 (c_szIntS f5 (by omega) (by omega)) (fun v6 w6 p6 => ?_)
 obtain ⟨r6, rfl, hr6, c6⟩ := p6
 have zw6 := c6.size
 refine av rfl rfl (wl_nil (q_n (k4 _ _ ?_)))
 refine sx_seq fun K7 k7 => ?_
 refine sx_seq fun K8 k8 => sx_region ?_
 refine mv rfl rfl (sp rfl (px_lt rfl rfl) ?_)
 refine wl_nil (q_n (k8 _ _ ?_))
 refine sx_condP rfl (fun h256 => ?_) (fun h256 => ?_)
 ·
  refine sx_seq fun K9 k9 => sx_region ?_
  refine av rfl rfl (wl_nil (q_n (k9 _ _ ?_)))
  refine sx_retc ?_
  refine q_r (sx_ret1 Tryz.results56 rfl ?_)
  exact ⟨_, rfl, by omega, (cb2.t c6)⟩
 refine sx_skip ?_
 refine q_n (k7 _ _ ?_)
 refine sx_seq fun K10 k10 => sx_region ?_
 refine mv rfl rfl (av rfl rfl (wl_nil (q_n (k10 _ _ ?_))))
 refine sx_retc ?_
 refine sx_ret1 Tryz.results56 rfl ?_
 exact ⟨_, rfl, by omega, (cb2.t c6)⟩

theorem c_szDec {w : World} {n1 : Bool} {v1 : Value} {lv1 uv1 : Nat} {z1 : List Int} {p1 : Int} {n : Int} (hv1 : Sl w lv1 uv1 v1 (z1)) (bz1 : z1.length ≤ 9223372036854775807) (hn : 0 ≤ n ∧ n ≤ 1048576) :
  Ret Tryz.prog 105 [.agg #[.bool n1, v1, .int .i64 p1], .int .i64 n] w fun v w' => ∃ r, v = .int .i64 (r) ∧ (r < 0 ∨ (0 ≤ r ∧ r = n - (z1).length)) ∧ Chg 0 0 w w' := by
 have hv10 := hv1.fit
 refine sx_enter Tryz.func105 rfl Tryz.ntmps105 (nbl rfl) ?_
 refine sx_seq fun K1 k1 => sx_region ?_
 refine sx_box [.bool n1, v1, .int .i64 p1] rfl rfl rfl (fun b2 w3 eb2 sb2 fb2 cb2 => ?_)
 have zw3 := cb2.size
 refine av rfl rfl (wl_nil (q_n (k1 _ _ ?_)))
 refine sx_seq fun K4 k4 => sx_region ?_
 refine sp rfl (px_field rfl xfld91x0) ?_
 refine sp rfl (px_load rfl (fb2.loadA (vs := [.bool n1, v1]) (look_lit rfl) Tryz.isAgg42 Tryz.sizeOf42)) ?_
 refine mv rfl rfl ?_
 have f5 := hv10.ext cb2
 refine sx_call rfl rfl Tryz.call56 (c_szSigned f5 (by omega) (by omega)) (fun v6 w6 p6 => ?_)
 obtain ⟨r6, rfl, hr6, c6⟩ := p6
 have zw6 := c6.size
 refine av rfl rfl (wl_nil (q_n (k4 _ _ ?_)))
 refine sx_seq fun K7 k7 => ?_
 refine sx_seq fun K8 k8 => sx_region ?_
 refine mv rfl rfl (sp rfl (px_lt rfl rfl) ?_)
 refine wl_nil (q_n (k8 _ _ ?_))
 refine sx_condP rfl (fun h398 => ?_) (fun h398 => ?_)
 ·
  refine sx_seq fun K9 k9 => sx_region ?_
  refine av rfl rfl (wl_nil (q_n (k9 _ _ ?_)))
  refine sx_retc ?_
  refine q_r (sx_ret1 Tryz.results105 rfl ?_)
  exact ⟨_, rfl, by omega, (cb2.t c6)⟩
 refine sx_skip ?_
 refine q_n (k7 _ _ ?_)
 refine sx_seq fun K10 k10 => sx_region ?_
 refine mv rfl rfl (av rfl rfl (wl_nil (q_n (k10 _ _ ?_))))
 refine sx_retc ?_
 refine sx_ret1 Tryz.results105 rfl ?_
 exact ⟨_, rfl, by omega, (cb2.t c6)⟩

theorem c_szRate {w : World} {f1 : ByteArray} {t1 : ByteArray} {n1 : Bool} {v1 : Value} {lv1 uv1 : Nat} {z1 : List Int} {p1 : Int} {n : Int} (hv1 : Sl w lv1 uv1 v1 (z1)) (bf1 : f1.size ≤ 9223372036854775807) (bt1 : t1.size ≤ 9223372036854775807) (bz1 : z1.length ≤ 9223372036854775807) (hn : 0 ≤ n ∧ n ≤ 1048576) :
  Ret Tryz.prog 65 [.agg #[.string f1, .string t1, .bool n1, v1, .int .i64 p1], .int .i64 n] w fun v w' => ∃ r, v = .int .i64 (r) ∧ (r < 0 ∨ (0 ≤ r ∧ r ≤ n - (z1).length)) ∧ Chg 0 0 w w' := by
 have hv10 := hv1.fit
 refine sx_enter Tryz.func65 rfl Tryz.ntmps65 (nbl rfl) ?_
 refine sx_seq fun K1 k1 => sx_region ?_
 refine sx_box [.string f1, .string t1, .bool n1, v1, .int .i64 p1] rfl rfl rfl (fun b2 w3 eb2 sb2 fb2 cb2 => ?_)
 have zw3 := cb2.size
 refine av rfl rfl (wl_nil (q_n (k1 _ _ ?_)))
 refine sx_seq fun K4 k4 => sx_region ?_
 refine mv rfl rfl (sp rfl (px_field rfl xfld93x0) ?_)
 refine sp rfl (px_load rfl (fb2.load1 rfl Tryz.isAgg9)) ?_
 refine sp rfl (px_lenS rfl Tryz.underlying9) ?_
 refine sp rfl (px_sub rfl rfl (by omega)) ?_
 refine av rfl rfl (wl_nil (q_n (k4 _ _ ?_)))
 refine sx_seq fun K5 k5 => ?_
 refine sx_seq fun K6 k6 => sx_region ?_
 refine mv rfl rfl (sp rfl (px_lt rfl rfl) ?_)
 refine wl_nil (q_n (k6 _ _ ?_))
 refine sx_condP rfl (fun h542 => ?_) (fun h542 => ?_)
 ·
  refine sx_seq fun K7 k7 => sx_region ?_
  refine av rfl rfl (wl_nil (q_n (k7 _ _ ?_)))
  refine sx_retc ?_
  refine q_r (sx_ret1 Tryz.results65 rfl ?_)
  exact ⟨_, rfl, by omega, cb2⟩
 refine sx_skip ?_
 refine q_n (k5 _ _ ?_)
 refine sx_seq fun K8 k8 => sx_region ?_
 refine mv rfl rfl (sp rfl (px_field rfl xfld93x1) ?_)
 refine sp rfl (px_load rfl (fb2.load1 rfl Tryz.isAgg9)) ?_
 refine sp rfl (px_lenS rfl Tryz.underlying9) ?_
 refine sp rfl (px_sub rfl rfl (by omega)) ?_
 refine av rfl rfl (wl_nil (q_n (k8 _ _ ?_)))
 refine sx_sub (Sub.c 1 rfl (.c 2 rfl (.c 4 rfl .nil))) ?_
 refine sx_seq fun K9 k9 => ?_
 refine sx_seq fun K10 k10 => sx_region ?_
 refine mv rfl rfl (sp rfl (px_lt rfl rfl) ?_)
 refine wl_nil (q_n (k10 _ _ ?_))
 refine sx_condP rfl (fun h546 => ?_) (fun h546 => ?_)
 ·
  refine sx_seq fun K11 k11 => sx_region ?_
  refine av rfl rfl (wl_nil (q_n (k11 _ _ ?_)))
  refine sx_retc ?_
  refine q_r (sx_ret1 Tryz.results65 rfl ?_)
  exact ⟨_, rfl, by omega, cb2⟩
 refine sx_skip ?_
 refine q_n (k9 _ _ ?_)
 refine sx_seq fun K12 k12 => sx_region ?_
 refine sp rfl (px_field rfl xfld93x2) ?_
 refine sp rfl (px_load rfl (fb2.loadA (vs := [.bool n1, v1, .int .i64 p1]) (look_lit rfl) Tryz.isAgg91 Tryz.sizeOf91)) ?_
 refine mv rfl rfl ?_
 have f13 := hv10.ext cb2
 refine sx_call rfl rfl Tryz.call105 (c_szDec f13 (by omega) (by omega)) (fun v14 w14 p14 => ?_)
 obtain ⟨r14, rfl, hr14, c14⟩ := p14
 have zw14 := c14.size
 refine av rfl rfl (wl_nil (q_n (k12 _ _ ?_)))
 refine sx_seq fun K15 k15 => ?_
 refine sx_seq fun K16 k16 => sx_region ?_
 refine mv rfl rfl (sp rfl (px_lt rfl rfl) ?_)
 refine wl_nil (q_n (k16 _ _ ?_))
 refine sx_condP rfl (fun h550 => ?_) (fun h550 => ?_)
 ·
  refine sx_seq fun K17 k17 => sx_region ?_
  refine av rfl rfl (wl_nil (q_n (k17 _ _ ?_)))
  refine sx_retc ?_
  refine q_r (sx_ret1 Tryz.results65 rfl ?_)
  exact ⟨_, rfl, by omega, (cb2.t c14)⟩
 refine sx_skip ?_
 refine q_n (k15 _ _ ?_)
 refine sx_seq fun K18 k18 => sx_region ?_
 refine mv rfl rfl (av rfl rfl (wl_nil (q_n (k18 _ _ ?_))))
 refine sx_retc ?_
 refine sx_ret1 Tryz.results65 rfl ?_
 exact ⟨_, rfl, by omega, (cb2.t c14)⟩

theorem c_szRateS {w : World} {vt : Value} {lvt uvt : Nat} {ts : List Rt} {vvt : List Value} {n : Int} (hvt : RtS w lvt uvt vt ts vvt) (bts : ts.length ≤ 9223372036854775807) (hb : ∀ i, i < ts.length → RB (ts.getD i rt0)) (hn : 0 ≤ n ∧ n ≤ 1048576) :
  Ret Tryz.prog 27 [vt, .int .i64 n] w fun v w' => ∃ r, v = .int .i64 (r) ∧ (r < 0 ∨ (0 ≤ r ∧ r ≤ n - (ts).length)) ∧ (0 ≤ r → ∀ i, i < (ts).length → ((ts).getD i rt0).2.2.2.1.length ≤ 1048576) ∧ Chg 0 0 w w' := by
 have hvt0 := hvt.fit
 refine sx_enter Tryz.func27 rfl Tryz.ntmps27 (nbl rfl) ?_
 refine sx_seq fun K1 k1 => sx_region ?_
 refine av rfl rfl (wl_nil (q_n (k1 _ _ ?_)))
 refine sx_seq fun K2 k2 => sx_region ?_
 refine mv rfl rfl (mv rfl rfl (sp rfl (px_len rfl Tryz.underlying22 hvt0.sv) ?_))
 refine sp rfl (px_sub rfl rfl (by omega)) ?_
 refine av rfl rfl (wl_nil (q_n (k2 _ _ ?_)))
 refine sx_seq fun K3 k3 => ?_
 refine sx_seq fun K4 k4 => sx_region ?_
 refine mv rfl rfl (sp rfl (px_lt rfl rfl) ?_)
 refine wl_nil (q_n (k4 _ _ ?_))
 refine sx_condP rfl (fun h586 => ?_) (fun h586 => ?_)
 ·
  refine sx_seq fun K5 k5 => sx_region ?_
  refine av rfl rfl (wl_nil (q_n (k5 _ _ ?_)))
  refine sx_retc ?_
  refine q_r (sx_ret1 Tryz.results27 rfl ?_)
  exact ⟨_, rfl, by omega, fun h => by omega, (Chg.refl 0 0 _)⟩
 refine sx_skip ?_
 refine q_n (k3 _ _ ?_)
 refine sx_seq fun K6 k6 => ?_
 refine sx_seq fun K7 k7 => sx_region ?_
 refine av rfl rfl (wl_nil (q_n (k7 _ _ ?_)))
 refine sx_block ?_
 refine sx_loop (fun mm aa w' => ∃ (k : Nat) (c : Int), Agr 27 [(0, vt), (1, .int .i64 c), (5, .int .i64 ↑k)] aa ∧ Chg 0 0 w w' ∧ (mm = ts.length - k) ∧ (k ≤ ts.length) ∧ (0 ≤ c ∧ c ≤ n - ↑ts.length) ∧ (∀ i, i < k → (ts.getD i rt0).2.2.2.1.length ≤ 1048576)) (_) (fun a ha => ⟨0, (n - (↑((ts).length))), ha.sub (Sub.c 0 rfl (.c 1 (look_int (t := 1) rfl (by first | omega | simp)) (.c 5 (look_int (t := 5) rfl (by first | omega | simp)) .nil))), Chg.refl _ _ _, rfl, by omega, by omega, fun i hi => by omega⟩) ?_
 rintro mm aa wl8 ⟨k, c, hAwl8, cwl8, hm, hk, hc, hzz⟩
 refine (show cw Tryz.prog 27 _ _ _ wl8 from ?_) aa hAwl8
 clear hAwl8
 have zwl8 := cwl8.size
 refine sx_seq fun K9 k9 => ?_
 refine sx_seq fun K10 k10 => sx_region ?_
 refine mv rfl rfl (mv rfl rfl ?_)
 have f11 := hvt0.ext cwl8
 refine sp rfl (px_len rfl Tryz.underlying22 f11.sv) ?_
 refine sp rfl (px_lt rfl rfl) ?_
 refine wl_nil (q_n (k10 _ _ ?_))
 refine sx_condP rfl (fun h589 => ?_) (fun h589 => ?_)
 ·
  have hbk := hb k (by omega)
  refine sx_skip ?_
  refine q_n (k9 _ _ ?_)
  refine sx_seq fun K12 k12 => ?_
  refine sx_block ?_
  refine sx_seq fun K13 k13 => sx_region ?_
  refine mv rfl rfl (mv rfl rfl (sp rfl (px_indexK (j := k) rfl rfl (by omega) Tryz.underlying22 Tryz.sizeOf93 f11.sv (by omega)) ?_))
  refine sp rfl (px_load rfl (f11.sv.loadA (rt_look f11.len (by omega)) Tryz.isAgg93 Tryz.sizeOf93)) ?_
  refine mv rfl rfl (sx_call rfl rfl Tryz.call65 (c_szRate (f11.nest k (by omega)) (hbk.1) (hbk.2.1) (hbk.2.2) (by omega)) (fun v14 w14 p14 => ?_))
  obtain ⟨r14, rfl, hr14, c14⟩ := p14
  have zw14 := c14.size
  refine av rfl rfl (wl_nil (q_n (k13 _ _ ?_)))
  refine sx_seq fun K15 k15 => sx_region ?_
  refine mv rfl rfl (sp rfl (px_lt rfl rfl) ?_)
  refine wl_nil (q_n (k15 _ _ ?_))
  refine sx_sub (Sub.c 0 rfl (.c 1 rfl (.c 5 rfl (.c 25 rfl .nil)))) ?_
  refine sx_condP rfl (fun h591 => ?_) (fun h591 => ?_)
  ·
   refine sx_seq fun K16 k16 => sx_region ?_
   refine av rfl rfl (wl_nil (q_n (k16 _ _ ?_)))
   refine sx_retc ?_
   refine q_br (q_r (q_r (q_br (q_r (sx_ret1 Tryz.results27 rfl ?_)))))
   exact ⟨_, rfl, by omega, fun h => by omega, (cwl8.t c14)⟩
  refine sx_skip ?_
  refine q_bn (q_n (k12 _ _ ?_))
  refine sx_region ?_
  refine mv rfl rfl (sp rfl (px_add rfl rfl (by omega)) ?_)
  refine av rfl rfl (wl_nil ?_)
  exact fun a ha => ⟨_, by omega, (k + 1), r14, ha.sub (Sub.c 0 rfl (.c 1 (look_int (t := 1) rfl (by first | omega | simp)) (.c 5 (look_int (t := 5) rfl (by first | omega | simp)) .nil))), (cwl8.t c14), rfl, by omega, by omega, sz_next hzz (by omega)⟩
 refine sx_exit ?_
 refine q_e (q_e (q_bx (q_n (k6 _ _ ?_))))
 refine sx_seq fun K17 k17 => sx_region ?_
 refine mv rfl rfl (av rfl rfl (wl_nil (q_n (k17 _ _ ?_))))
 refine sx_retc ?_
 refine sx_ret1 Tryz.results27 rfl ?_
 have ek : k = ts.length := by omega
 subst ek
 exact ⟨_, rfl, by omega, fun _ => hzz, cwl8⟩

theorem c_szRates {w : World} {pv : ByteArray} {vt : Value} {lvt uvt : Nat} {ts : List Rt} {vvt : List Value} {n : Int} (hvt : RtS w lvt uvt vt ts vvt) (bpv : pv.size ≤ 9223372036854775807) (bts : ts.length ≤ 9223372036854775807) (hb : ∀ i, i < ts.length → RB (ts.getD i rt0)) (hn : 0 ≤ n ∧ n ≤ 1048576) :
  Ret Tryz.prog 7 [.agg #[.string pv, vt], .int .i64 n] w fun v w' => ∃ r, v = .int .i64 (r) ∧ (r < 0 ∨ (0 ≤ r ∧ r ≤ n - (ts).length)) ∧ (0 ≤ r → ∀ i, i < (ts).length → ((ts).getD i rt0).2.2.2.1.length ≤ 1048576) ∧ Chg 0 0 w w' := by
 have hvt0 := hvt.fit
 refine sx_enter Tryz.func7 rfl Tryz.ntmps7 (nbl rfl) ?_
 refine sx_seq fun K1 k1 => sx_region ?_
 refine sx_box [.string pv, vt] rfl rfl rfl (fun b2 w3 eb2 sb2 fb2 cb2 => ?_)
 have zw3 := cb2.size
 refine av rfl rfl (wl_nil (q_n (k1 _ _ ?_)))
 refine sx_seq fun K4 k4 => sx_region ?_
 refine mv rfl rfl (sp rfl (px_field rfl xfld24x0) ?_)
 refine sp rfl (px_load rfl (fb2.load1 rfl Tryz.isAgg9)) ?_
 refine sp rfl (px_lenS rfl Tryz.underlying9) ?_
 refine sp rfl (px_sub rfl rfl (by omega)) ?_
 refine av rfl rfl (wl_nil (q_n (k4 _ _ ?_)))
 refine sx_seq fun K5 k5 => ?_
 refine sx_seq fun K6 k6 => sx_region ?_
 refine mv rfl rfl (sp rfl (px_lt rfl rfl) ?_)
 refine wl_nil (q_n (k6 _ _ ?_))
 refine sx_condP rfl (fun h600 => ?_) (fun h600 => ?_)
 ·
  refine sx_seq fun K7 k7 => sx_region ?_
  refine av rfl rfl (wl_nil (q_n (k7 _ _ ?_)))
  refine sx_retc ?_
  refine q_r (sx_ret1 Tryz.results7 rfl ?_)
  exact ⟨_, rfl, by omega, fun h => by omega, cb2⟩
 refine sx_skip ?_
 refine q_n (k5 _ _ ?_)
 refine sx_seq fun K8 k8 => sx_region ?_
 refine sp rfl (px_field rfl xfld24x1) ?_
 refine sp rfl (px_load rfl (fb2.load1 rfl Tryz.isAgg22)) ?_
 refine mv rfl rfl ?_
 have f9 := hvt0.ext cb2
 refine sx_call rfl rfl Tryz.call27 (c_szRateS f9 (by omega) (by assumption) (by omega)) (fun v10 w10 p10 => ?_)
 obtain ⟨r10, rfl, hr10, hzz10, c10⟩ := p10
 have zw10 := c10.size
 have hzs := hzz10
 refine av rfl rfl (wl_nil (q_n (k8 _ _ ?_)))
 refine sx_sub (Sub.c 1 rfl (.c 4 rfl .nil)) ?_
 refine sx_seq fun K11 k11 => ?_
 refine sx_seq fun K12 k12 => sx_region ?_
 refine mv rfl rfl (sp rfl (px_lt rfl rfl) ?_)
 refine wl_nil (q_n (k12 _ _ ?_))
 refine sx_condP rfl (fun h604 => ?_) (fun h604 => ?_)
 ·
  refine sx_seq fun K13 k13 => sx_region ?_
  refine av rfl rfl (wl_nil (q_n (k13 _ _ ?_)))
  refine sx_retc ?_
  refine q_r (sx_ret1 Tryz.results7 rfl ?_)
  exact ⟨_, rfl, by omega, fun h => by omega, (cb2.t c10)⟩
 refine sx_skip ?_
 refine q_n (k11 _ _ ?_)
 refine sx_seq fun K14 k14 => sx_region ?_
 refine mv rfl rfl (av rfl rfl (wl_nil (q_n (k14 _ _ ?_))))
 refine sx_retc ?_
 refine sx_ret1 Tryz.results7 rfl ?_
 exact ⟨_, rfl, by omega, fun h => hzs h, (cb2.t c10)⟩

theorem c_szMoney {w : World} {c1 : ByteArray} {n1 : Bool} {v1 : Value} {lv1 uv1 : Nat} {z1 : List Int} {n : Int} (hv1 : Sl w lv1 uv1 v1 (z1)) (bz1 : z1.length ≤ 9223372036854775807) (bc1 : c1.size ≤ 9223372036854775807) (hn : 0 ≤ n ∧ n ≤ 1048576) :
  Ret Tryz.prog 18 [.agg #[.string c1, .bool n1, v1], .int .i64 n] w fun v w' => ∃ r, v = .int .i64 (r) ∧ (r < 0 ∨ (0 ≤ r ∧ r ≤ n - (z1).length)) ∧ Chg 0 0 w w' := by
 have hv10 := hv1.fit
 refine sx_enter Tryz.func18 rfl Tryz.ntmps18 (nbl rfl) ?_
 refine sx_seq fun K1 k1 => sx_region ?_
 refine sx_box [.string c1, .bool n1, v1] rfl rfl rfl (fun b2 w3 eb2 sb2 fb2 cb2 => ?_)
 have zw3 := cb2.size
 refine av rfl rfl (wl_nil (q_n (k1 _ _ ?_)))
 refine sx_seq fun K4 k4 => sx_region ?_
 refine mv rfl rfl (sp rfl (px_field rfl xfld44x0) ?_)
 refine sp rfl (px_load rfl (fb2.load1 rfl Tryz.isAgg9)) ?_
 refine sp rfl (px_lenS rfl Tryz.underlying9) ?_
 refine sp rfl (px_sub rfl rfl (by omega)) ?_
 refine av rfl rfl (wl_nil (q_n (k4 _ _ ?_)))
 refine sx_seq fun K5 k5 => ?_
 refine sx_seq fun K6 k6 => sx_region ?_
 refine mv rfl rfl (sp rfl (px_lt rfl rfl) ?_)
 refine wl_nil (q_n (k6 _ _ ?_))
 refine sx_condP rfl (fun h436 => ?_) (fun h436 => ?_)
 ·
  refine sx_seq fun K7 k7 => sx_region ?_
  refine av rfl rfl (wl_nil (q_n (k7 _ _ ?_)))
  refine sx_retc ?_
  refine q_r (sx_ret1 Tryz.results18 rfl ?_)
  exact ⟨_, rfl, by omega, cb2⟩
 refine sx_skip ?_
 refine q_n (k5 _ _ ?_)
 refine sx_seq fun K8 k8 => sx_region ?_
 refine sp rfl (px_field rfl xfld44x1) ?_
 refine sp rfl (px_load rfl (fb2.loadA (vs := [.bool n1, v1]) (look_lit rfl) Tryz.isAgg42 Tryz.sizeOf42)) ?_
 refine mv rfl rfl ?_
 have f9 := hv10.ext cb2
 refine sx_call rfl rfl Tryz.call56 (c_szSigned f9 (by omega) (by omega)) (fun v10 w10 p10 => ?_)
 obtain ⟨r10, rfl, hr10, c10⟩ := p10
 have zw10 := c10.size
 refine av rfl rfl (wl_nil (q_n (k8 _ _ ?_)))
 refine sx_sub (Sub.c 1 rfl (.c 4 rfl .nil)) ?_
 refine sx_seq fun K11 k11 => ?_
 refine sx_seq fun K12 k12 => sx_region ?_
 refine mv rfl rfl (sp rfl (px_lt rfl rfl) ?_)
 refine wl_nil (q_n (k12 _ _ ?_))
 refine sx_condP rfl (fun h440 => ?_) (fun h440 => ?_)
 ·
  refine sx_seq fun K13 k13 => sx_region ?_
  refine av rfl rfl (wl_nil (q_n (k13 _ _ ?_)))
  refine sx_retc ?_
  refine q_r (sx_ret1 Tryz.results18 rfl ?_)
  exact ⟨_, rfl, by omega, (cb2.t c10)⟩
 refine sx_skip ?_
 refine q_n (k11 _ _ ?_)
 refine sx_seq fun K14 k14 => sx_region ?_
 refine mv rfl rfl (av rfl rfl (wl_nil (q_n (k14 _ _ ?_))))
 refine sx_retc ?_
 refine sx_ret1 Tryz.results18 rfl ?_
 exact ⟨_, rfl, by omega, (cb2.t c10)⟩

theorem c_toIntS {w : World} {va : Value} {lva uva : Nat} {zs : List Int} (hva : Sl w lva uva va (zs)) (h63 : zs.length ≤ 1048576) :
  Ret Tryz.prog 96 [va] w fun v w' => ∃ s, v = s ∧ OwnI w' w.heap.size w'.heap.size s intT (zs) ∧ Chg 0 0 w w' := by
 have hva0 := hva.fit
 refine sx_enter Tryz.func96 rfl Tryz.ntmps96 (nbl rfl) ?_
 refine sx_seq fun K1 k1 => sx_region ?_
 refine av rfl rfl (wl_nil (q_n (k1 _ _ ?_)))
 refine sx_seq fun K2 k2 => sx_region ?_
 refine mv rfl rfl (sp rfl (px_len rfl Tryz.underlying26 hva0) ?_)
 refine sx_make (c := (zs).length) rfl xelt26 (rfl) (rfl) (by omega) (by unfold maxLen; omega) (fun s3 ws3 fs3 cs3 ls3 => ?_)
 have ns3 := fs3.made
 have zws3 := cs3.size
 refine av rfl rfl (wl_nil (q_n (k2 _ _ ?_)))
 refine sx_seq fun K4 k4 => ?_
 refine sx_seq fun K5 k5 => sx_region ?_
 refine av rfl rfl (wl_nil (q_n (k5 _ _ ?_)))
 refine sx_block ?_
 refine sx_loop (fun mm aa w' => ∃ (k : Nat) (os : List Int), Agr 22 [(0, va), (3, s3), (4, .int .i64 ↑k)] aa ∧ Chg w.heap.size ws3.heap.size ws3 w' ∧ Own w' w.heap.size ws3.heap.size s3 3 os.length 1 (os.map (Value.int .i64)) ∧ (mm = zs.length - k) ∧ (k ≤ zs.length) ∧ (os.length = zs.length) ∧ (os.take k = zs.take k)) (_) (fun a ha => ⟨0, List.replicate zs.length 0, ha.sub (Sub.c 0 rfl (.c 3 rfl (.c 4 (look_int (t := 4) rfl (by first | omega | simp)) .nil))), Chg.refl _ _ _, (ns3.mono (by omega) (by omega)), rfl, by omega, by simp, by simp⟩) ?_
 rintro mm aa wl6 ⟨k, os, hAwl6, cwl6, hs_s3, hm, hk, ho, he⟩
 refine (show cw Tryz.prog 22 _ _ _ wl6 from ?_) aa hAwl6
 clear hAwl6
 have zwl6 := cwl6.size
 refine sx_seq fun K7 k7 => ?_
 refine sx_seq fun K8 k8 => sx_region ?_
 refine mv rfl rfl (mv rfl rfl ?_)
 have f9 := hva0.ext cs3
 have f10 := f9.chg cwl6 (by omega)
 refine sp rfl (px_len rfl Tryz.underlying26 f10) ?_
 refine sp rfl (px_lt rfl rfl) ?_
 refine wl_nil (q_n (k8 _ _ ?_))
 refine sx_condP rfl (fun h203 => ?_) (fun h203 => ?_)
 ·
  refine sx_skip ?_
  refine q_n (k7 _ _ ?_)
  refine sx_seq fun K11 k11 => ?_
  refine sx_block ?_
  refine sx_region ?_
  refine mv rfl rfl (mv rfl rfl (mv rfl rfl (mv rfl rfl (sp rfl (px_index1 (j := k) rfl rfl (by omega) Tryz.underlying26 Tryz.sizeOf3 f10 (by omega)) ?_))))
  refine sp rfl (px_load rfl (f10.load1 (at_int (by omega)) Tryz.isAgg3)) ?_
  refine sp rfl (px_index1 (j := k) rfl rfl (by omega) Tryz.underlying26 Tryz.sizeOf3 hs_s3.sv (by omega)) ?_
  refine sx_storeO rfl rfl hs_s3 (by simp only [List.length_map]; omega) Tryz.sizeOf3 rfl (fun w12 sw12 fw12 cw12 => ?_)
  have zw12 := cw12.size
  have nw12 := fw12.set
  refine wl_nil ?_
  refine q_bn (q_n (k11 _ _ ?_))
  refine sx_region ?_
  refine mv rfl rfl (sp rfl (px_add rfl rfl (by omega)) ?_)
  refine av rfl rfl (wl_nil ?_)
  have q13 := Chg.step (l := w.heap.size) (h := ws3.heap.size) cwl6 cw12 (by omega)
  exact fun a ha => ⟨_, by omega, (k + 1), (os.set k (zs.getD k 0)), ha.sub (Sub.c 0 rfl (.c 3 rfl (.c 4 (look_int (t := 4) rfl (by first | omega | simp)) .nil))), q13, (nw12.mono (by omega) (by omega)), rfl, by omega, by simp [ho], take_set_succ he (by omega) (by omega)⟩
 refine sx_exit ?_
 refine q_e (q_e (q_bx (q_n (k4 _ _ ?_))))
 refine sx_seq fun K14 k14 => sx_region ?_
 refine mv rfl rfl (av rfl rfl (wl_nil (q_n (k14 _ _ ?_))))
 refine sx_retc ?_
 refine sx_ret1 Tryz.results96 rfl ?_
 have e1 : k = zs.length := by omega
 rw [e1, List.take_length, List.take_of_length_le (by omega)] at he
 subst he
 have q15 := Chg.step (l := 0) (h := 0) (Chg.zero (l := 0) (h := 0) cs3) cwl6 (by omega)
 exact ⟨_, rfl, Own.mono hs_s3 (by omega) (by omega), q15⟩

theorem c_toSigned {w : World} {n1 : Bool} {v1 : Value} {lv1 uv1 : Nat} {z1 : List Int} (hv1 : Sl w lv1 uv1 v1 (z1)) (bz1 : z1.length ≤ 1048576) :
  Ret Tryz.prog 59 [.agg #[.bool n1, v1]] w fun v w' => ∃ s1, v = .agg #[.bool (n1), s1] ∧ OwnI w' w.heap.size w'.heap.size s1 intT (z1) ∧ Chg 0 0 w w' := by
 have hv10 := hv1.fit
 refine sx_enter Tryz.func59 rfl Tryz.ntmps59 (nbl rfl) ?_
 refine sx_seq fun K1 k1 => sx_region ?_
 refine sx_box [.bool n1, v1] rfl rfl rfl (fun b2 w3 eb2 sb2 fb2 cb2 => ?_)
 have zw3 := cb2.size
 refine sx_alloc [.bool false, (.slice none 0 0)] rfl Tryz.zeroValue28 rfl (fun b4 w5 eb4 sb4 fb4 cb4 => ?_)
 have zw5 := cb4.size
 refine wl_nil (q_n (k1 _ _ ?_))
 refine sx_seq fun K6 k6 => sx_region ?_
 refine sx_alloc [.bool false, (.slice none 0 0)] rfl Tryz.zeroValue28 rfl (fun b7 w8 eb7 sb7 fb7 cb7 => ?_)
 have zw8 := cb7.size
 refine wl_nil (q_n (k6 _ _ ?_))
 refine sx_seq fun K9 k9 => sx_region ?_
 refine sp rfl (px_field rfl xfld42x0) ?_
 have f10 := fb2.ext cb4
 have f11 := f10.ext cb7
 refine sp rfl (px_load rfl (f11.load1 rfl Tryz.isAgg4)) ?_
 refine sp rfl (px_field rfl xfld28x0) ?_
 refine sx_store (vs := [.bool n1]) rfl rfl fb7 rfl Tryz.sizeOf4 (nbl rfl) (o1 rfl) (fun w12 sw12 fw12 cw12 => ?_)
 have zw12 := cw12.size
 have gw12 : Blk w12 b7 [.bool n1, (.slice none 0 0)] 28 := fw12
 refine wl_nil (q_n (k9 _ _ ?_))
 refine sx_seq fun K13 k13 => sx_region ?_
 refine sp rfl (px_field rfl xfld42x1) ?_
 have f14 := f11.chg cw12 (by omega)
 refine sp rfl (px_load rfl (f14.load1 rfl Tryz.isAgg26)) ?_
 have f15 := hv10.ext cb2
 have f16 := f15.ext cb4
 have f17 := f16.ext cb7
 have f18 := f17.chg cw12 (by omega)
 refine sx_call rfl rfl Tryz.call96 (c_toIntS f18 (by omega)) (fun v19 w19 p19 => ?_)
 obtain ⟨s19, rfl, os_19, c19⟩ := p19
 have zw19 := c19.size
 refine sp rfl (px_field rfl xfld28x1) ?_
 have f21 := gw12.ext c19
 refine sx_store (vs := [v19]) rfl rfl f21 (cells_one os_19.one) Tryz.sizeOf26 (nbl rfl) (one_cons os_19.one one_nil) (fun w20 sw20 fw20 cw20 => ?_)
 have zw20 := cw20.size
 have gw20 : Blk w20 b7 [.bool n1, v19] 28 := fw20
 refine wl_nil (q_n (k13 _ _ ?_))
 refine sx_seq fun K22 k22 => sx_region ?_
 refine sp rfl (px_load rfl (gw20.loadA (vs := [.bool n1, v19]) (look_lit rfl) Tryz.isAgg28 Tryz.sizeOf28)) ?_
 have f24 := fb4.ext cb7
 have f25 := f24.chg cw12 (by omega)
 have f27 := (f25.ext c19).chg cw20 (by omega)
 have f28 := os_19.chg cw20 (by omega)
 refine sx_store (vs := [.bool n1, v19]) rfl rfl f27 rfl Tryz.sizeOf28 (nbl rfl) (one_cons rfl (one_cons f28.one one_nil)) (fun w23 sw23 fw23 cw23 => ?_)
 have zw23 := cw23.size
 have gw23 : Blk w23 b4 [.bool n1, v19] 28 := fw23
 refine wl_nil (q_n (k22 _ _ ?_))
 refine sx_retc ?_
 refine sx_ret1 Tryz.results59 ⟨_, rfl, gw23.loadA (vs := [.bool n1, v19]) (look_lit rfl) Tryz.isAgg28 Tryz.sizeOf28⟩ ?_
 have q29 := Chg.step (l := 0) (h := 0) (Chg.zero (l := 0) (h := 0) ((cb2.t cb4).t cb7)) cw12 (by omega)
 have q30 := Chg.step (l := 0) (h := 0) q29 c19 (by omega)
 have q31 := Chg.step (l := 0) (h := 0) q30 cw20 (by omega)
 have q32 := Chg.step (l := 0) (h := 0) q31 cw23 (by omega)
 have f33 := f28.chg cw23 (by omega)
 exact ⟨_, rfl, Own.mono f33 (by omega) (by omega), q32⟩

theorem c_toDec {w : World} {n1 : Bool} {v1 : Value} {lv1 uv1 : Nat} {z1 : List Int} {p1 : Int} (hv1 : Sl w lv1 uv1 v1 (z1)) (bz1 : z1.length ≤ 1048576) :
  Ret Tryz.prog 116 [.agg #[.bool n1, v1, .int .i64 p1]] w fun v w' => ∃ s1, v = .agg #[.bool (n1), s1, .int .i64 (p1)] ∧ OwnI w' w.heap.size w'.heap.size s1 intT (z1) ∧ Chg 0 0 w w' := by
 have hv10 := hv1.fit
 refine sx_enter Tryz.func116 rfl Tryz.ntmps116 (nbl rfl) ?_
 refine sx_seq fun K1 k1 => sx_region ?_
 refine sx_box [.bool n1, v1, .int .i64 p1] rfl rfl rfl (fun b2 w3 eb2 sb2 fb2 cb2 => ?_)
 have zw3 := cb2.size
 refine sx_alloc [.bool false, (.slice none 0 0), .int .i64 0] rfl Tryz.zeroValue63 rfl (fun b4 w5 eb4 sb4 fb4 cb4 => ?_)
 have zw5 := cb4.size
 refine wl_nil (q_n (k1 _ _ ?_))
 refine sx_seq fun K6 k6 => sx_region ?_
 refine sx_alloc [.bool false, (.slice none 0 0), .int .i64 0] rfl Tryz.zeroValue63 rfl (fun b7 w8 eb7 sb7 fb7 cb7 => ?_)
 have zw8 := cb7.size
 refine wl_nil (q_n (k6 _ _ ?_))
 refine sx_seq fun K9 k9 => sx_region ?_
 refine sp rfl (px_field rfl xfld91x0) ?_
 have f10 := fb2.ext cb4
 have f11 := f10.ext cb7
 refine sp rfl (px_load rfl (f11.loadA (vs := [.bool n1, v1]) (look_lit rfl) Tryz.isAgg42 Tryz.sizeOf42)) ?_
 have f12 := hv10.ext cb2
 have f13 := f12.ext cb4
 have f14 := f13.ext cb7
 refine sx_call rfl rfl Tryz.call59 (c_toSigned f14 (by omega)) (fun v15 w15 p15 => ?_)
 obtain ⟨s115, rfl, os1_15, c15⟩ := p15
 have zw15 := c15.size
 refine sp rfl (px_field rfl xfld63x0) ?_
 have f17 := fb7.ext c15
 refine sx_store (vs := [.bool n1, s115]) rfl rfl f17 rfl Tryz.sizeOf28 (nbl rfl) (one_cons rfl (one_cons os1_15.one one_nil)) (fun w16 sw16 fw16 cw16 => ?_)
 have zw16 := cw16.size
 have gw16 : Blk w16 b7 [.bool n1, s115, .int .i64 0] 63 := fw16
 refine wl_nil (q_n (k9 _ _ ?_))
 refine sx_seq fun K18 k18 => sx_region ?_
 refine sp rfl (px_field rfl xfld91x1) ?_
 have f20 := (f11.ext c15).chg cw16 (by omega)
 refine sp rfl (px_load rfl (f20.load1 rfl Tryz.isAgg3)) ?_
 refine sp rfl (px_field rfl xfld63x1) ?_
 refine sx_store (vs := [.int .i64 p1]) rfl rfl gw16 rfl Tryz.sizeOf3 (nbl rfl) (o1 rfl) (fun w21 sw21 fw21 cw21 => ?_)
 have zw21 := cw21.size
 have gw21 : Blk w21 b7 [.bool n1, s115, .int .i64 p1] 63 := fw21
 refine wl_nil (q_n (k18 _ _ ?_))
 refine sx_seq fun K22 k22 => sx_region ?_
 refine sp rfl (px_load rfl (gw21.loadA (vs := [.bool n1, s115, .int .i64 p1]) (look_lit rfl) Tryz.isAgg63 Tryz.sizeOf63)) ?_
 have f24 := fb4.ext cb7
 have f26 := (f24.ext c15).chg cw16 (by omega)
 have f27 := f26.chg cw21 (by omega)
 have f28 := os1_15.chg cw16 (by omega)
 have f29 := f28.chg cw21 (by omega)
 refine sx_store (vs := [.bool n1, s115, .int .i64 p1]) rfl rfl f27 rfl Tryz.sizeOf63 (nbl rfl) (one_cons rfl (one_cons f29.one (o1 rfl))) (fun w23 sw23 fw23 cw23 => ?_)
 have zw23 := cw23.size
 have gw23 : Blk w23 b4 [.bool n1, s115, .int .i64 p1] 63 := fw23
 refine wl_nil (q_n (k22 _ _ ?_))
 refine sx_retc ?_
 refine sx_ret1 Tryz.results116 ⟨_, rfl, gw23.loadA (vs := [.bool n1, s115, .int .i64 p1]) (look_lit rfl) Tryz.isAgg63 Tryz.sizeOf63⟩ ?_
 have q30 := Chg.step (l := 0) (h := 0) (Chg.zero (l := 0) (h := 0) (((cb2.t cb4).t cb7).t c15)) cw16 (by omega)
 have q31 := Chg.step (l := 0) (h := 0) q30 cw21 (by omega)
 have q32 := Chg.step (l := 0) (h := 0) q31 cw23 (by omega)
 have f33 := f29.chg cw23 (by omega)
 exact ⟨_, rfl, Own.mono f33 (by omega) (by omega), q32⟩

theorem c_toRate {w : World} {f1 : ByteArray} {t1 : ByteArray} {n1 : Bool} {v1 : Value} {lv1 uv1 : Nat} {z1 : List Int} {p1 : Int} (hv1 : Sl w lv1 uv1 v1 (z1)) (bz1 : z1.length ≤ 1048576) :
  Ret Tryz.prog 77 [.agg #[.string f1, .string t1, .bool n1, v1, .int .i64 p1]] w fun v w' => ∃ s, v = .agg #[.string (f1), .string (t1), .bool (n1), s, .int .i64 (p1)] ∧ OwnI w' w.heap.size w'.heap.size s intT (z1) ∧ Chg 0 0 w w' := by
 have hv10 := hv1.fit
 refine sx_enter Tryz.func77 rfl Tryz.ntmps77 (nbl rfl) ?_
 refine sx_seq fun K1 k1 => sx_region ?_
 refine sx_box [.string f1, .string t1, .bool n1, v1, .int .i64 p1] rfl rfl rfl (fun b2 w3 eb2 sb2 fb2 cb2 => ?_)
 have zw3 := cb2.size
 refine sx_alloc [.string (⟨#[]⟩), .string (⟨#[]⟩), .bool false, (.slice none 0 0), .int .i64 0] rfl Tryz.zeroValue99 rfl (fun b4 w5 eb4 sb4 fb4 cb4 => ?_)
 have zw5 := cb4.size
 refine wl_nil (q_n (k1 _ _ ?_))
 refine sx_seq fun K6 k6 => sx_region ?_
 refine sx_alloc [.string (⟨#[]⟩), .string (⟨#[]⟩), .bool false, (.slice none 0 0), .int .i64 0] rfl Tryz.zeroValue99 rfl (fun b7 w8 eb7 sb7 fb7 cb7 => ?_)
 have zw8 := cb7.size
 refine wl_nil (q_n (k6 _ _ ?_))
 refine sx_seq fun K9 k9 => sx_region ?_
 refine sp rfl (px_field rfl xfld93x0) ?_
 have f10 := fb2.ext cb4
 have f11 := f10.ext cb7
 refine sp rfl (px_load rfl (f11.load1 rfl Tryz.isAgg9)) ?_
 refine sp rfl (px_field rfl xfld99x0) ?_
 refine sx_store (vs := [.string f1]) rfl rfl fb7 rfl Tryz.sizeOf9 (nbl rfl) (o1 rfl) (fun w12 sw12 fw12 cw12 => ?_)
 have zw12 := cw12.size
 have gw12 : Blk w12 b7 [.string f1, .string (⟨#[]⟩), .bool false, (.slice none 0 0), .int .i64 0] 99 := fw12
 refine wl_nil (q_n (k9 _ _ ?_))
 refine sx_seq fun K13 k13 => sx_region ?_
 refine sp rfl (px_field rfl xfld93x1) ?_
 have f14 := f11.chg cw12 (by omega)
 refine sp rfl (px_load rfl (f14.load1 rfl Tryz.isAgg9)) ?_
 refine sp rfl (px_field rfl xfld99x1) ?_
 refine sx_store (vs := [.string t1]) rfl rfl gw12 rfl Tryz.sizeOf9 (nbl rfl) (o1 rfl) (fun w15 sw15 fw15 cw15 => ?_)
 have zw15 := cw15.size
 have gw15 : Blk w15 b7 [.string f1, .string t1, .bool false, (.slice none 0 0), .int .i64 0] 99 := fw15
 refine wl_nil (q_n (k13 _ _ ?_))
 refine sx_seq fun K16 k16 => sx_region ?_
 refine sp rfl (px_field rfl xfld93x2) ?_
 have f17 := f14.chg cw15 (by omega)
 refine sp rfl (px_load rfl (f17.loadA (vs := [.bool n1, v1, .int .i64 p1]) (look_lit rfl) Tryz.isAgg91 Tryz.sizeOf91)) ?_
 have f18 := hv10.ext cb2
 have f19 := f18.ext cb4
 have f20 := f19.ext cb7
 have f21 := f20.chg cw12 (by omega)
 have f22 := f21.chg cw15 (by omega)
 refine sx_call rfl rfl Tryz.call116 (c_toDec f22 (by omega)) (fun v23 w23 p23 => ?_)
 obtain ⟨s123, rfl, os1_23, c23⟩ := p23
 have zw23 := c23.size
 refine sp rfl (px_field rfl xfld99x2) ?_
 have f25 := gw15.ext c23
 refine sx_store (vs := [.bool n1, s123, .int .i64 p1]) rfl rfl f25 rfl Tryz.sizeOf63 (nbl rfl) (one_cons rfl (one_cons os1_23.one (o1 rfl))) (fun w24 sw24 fw24 cw24 => ?_)
 have zw24 := cw24.size
 have gw24 : Blk w24 b7 [.string f1, .string t1, .bool n1, s123, .int .i64 p1] 99 := fw24
 refine wl_nil (q_n (k16 _ _ ?_))
 refine sx_seq fun K26 k26 => sx_region ?_
 refine sp rfl (px_load rfl (gw24.loadA (vs := [.string f1, .string t1, .bool n1, s123, .int .i64 p1]) (look_lit rfl) Tryz.isAgg99 Tryz.sizeOf99)) ?_
 have f28 := fb4.ext cb7
 have f29 := f28.chg cw12 (by omega)
 have f30 := f29.chg cw15 (by omega)
 have f32 := (f30.ext c23).chg cw24 (by omega)
 have f33 := os1_23.chg cw24 (by omega)
 refine sx_store (vs := [.string f1, .string t1, .bool n1, s123, .int .i64 p1]) rfl rfl f32 rfl Tryz.sizeOf99 (nbl rfl) (one_cons rfl (one_cons rfl (one_cons rfl (one_cons f33.one (o1 rfl))))) (fun w27 sw27 fw27 cw27 => ?_)
 have zw27 := cw27.size
 have gw27 : Blk w27 b4 [.string f1, .string t1, .bool n1, s123, .int .i64 p1] 99 := fw27
 refine wl_nil (q_n (k26 _ _ ?_))
 refine sx_sub (Sub.c 2 rfl .nil) ?_
 refine sx_retc ?_
 refine sx_ret1 Tryz.results77 ⟨_, rfl, gw27.loadA (vs := [.string f1, .string t1, .bool n1, s123, .int .i64 p1]) (look_lit rfl) Tryz.isAgg99 Tryz.sizeOf99⟩ ?_
 have q34 := Chg.step (l := 0) (h := 0) (Chg.zero (l := 0) (h := 0) ((cb2.t cb4).t cb7)) cw12 (by omega)
 have q35 := Chg.step (l := 0) (h := 0) q34 cw15 (by omega)
 have q36 := Chg.step (l := 0) (h := 0) q35 c23 (by omega)
 have q37 := Chg.step (l := 0) (h := 0) q36 cw24 (by omega)
 have q38 := Chg.step (l := 0) (h := 0) q37 cw27 (by omega)
 have f39 := f33.chg cw27 (by omega)
 exact ⟨_, rfl, (Own.mono f39 (by omega) (by omega)), q38⟩

theorem c_toRateS {w : World} {vt : Value} {lvt uvt : Nat} {ts : List Rt} {vvt : List Value} (hvt : RtS w lvt uvt vt ts vvt) (h63 : ts.length ≤ 1048576) (hzz : ∀ i, i < ts.length → (ts.getD i rt0).2.2.2.1.length ≤ 1048576) :
  Ret Tryz.prog 33 [vt] w fun v w' => ∃ s us, v = s ∧ RtO w' (w.heap.size) (w'.heap.size) s 99 intT (ts) us ∧ Chg 0 0 w w' := by
 have hvt0 := hvt.fit
 refine sx_enter Tryz.func33 rfl Tryz.ntmps33 (nbl rfl) ?_
 refine sx_seq fun K1 k1 => sx_region ?_
 refine av rfl rfl (wl_nil (q_n (k1 _ _ ?_)))
 refine sx_seq fun K2 k2 => sx_region ?_
 refine mv rfl rfl (sp rfl (px_len rfl Tryz.underlying22 hvt0.sv) ?_)
 refine sx_make (c := (ts).length) rfl xelt33 (rfl) (rfl) (by omega) (by unfold maxLen; omega) (fun s3 ws3 fs3 cs3 ls3 => ?_)
 have zws3 := cs3.size
 refine av rfl rfl (wl_nil (q_n (k2 _ _ ?_)))
 refine sx_seq fun K4 k4 => ?_
 refine sx_seq fun K5 k5 => sx_region ?_
 refine av rfl rfl (wl_nil (q_n (k5 _ _ ?_)))
 refine sx_block ?_
 obtain ⟨xs0, hxs0⟩ : ∃ xs, Own ws3 w.heap.size ws3.heap.size s3 99 ts.length 5 xs := ⟨_, fs3⟩
 refine sx_loop (fun mm aa w' => ∃ (k : Nat) (us : List Value) (xs : List Value) (r : Nat → Nat), Agr 23 [(0, vt), (3, s3), (4, .int .i64 ↑k)] aa ∧ Chg w.heap.size ws3.heap.size ws3 w' ∧ Own w' w.heap.size ws3.heap.size s3 99 ts.length 5 (xs) ∧ (mm = ts.length - k) ∧ (k ≤ ts.length) ∧ (us.length = k) ∧ (xs.take (k * 5) = rtCells (ts.take k) us) ∧ (ws3.heap.size ≤ r 0) ∧ (∀ i, i < k → r i ≤ r (i + 1)) ∧ (r k ≤ w'.heap.size) ∧ (∀ i, i < k → OwnI w' (r i) (r (i + 1)) (us.getD i vz) intT (ts.getD i rt0).2.2.2.1)) (_) (fun a ha => ⟨0, [], xs0, (fun _ => ws3.heap.size), ha.sub (Sub.c 0 rfl (.c 3 rfl (.c 4 (look_int (t := 4) rfl (by first | omega | simp)) .nil))), Chg.refl _ _ _, hxs0, rfl, by omega, rfl, by simp [rtCells], (show ws3.heap.size ≤ ws3.heap.size from by omega), fun i hi => by omega, Nat.le_refl _, fun i hi => by omega⟩) ?_
 rintro mm aa wl7 ⟨k, us, xs, r, hAwl7, cwl7, hs_s3, hm, hk, hul, hxt, hr0, hrm, hrk, hne⟩
 refine (show cw Tryz.prog 23 _ _ _ wl7 from ?_) aa hAwl7
 clear hAwl7
 have zwl7 := cwl7.size
 refine sx_seq fun K8 k8 => ?_
 refine sx_seq fun K9 k9 => sx_region ?_
 refine mv rfl rfl (mv rfl rfl ?_)
 have f10 := hvt0.ext cs3
 have f11 := f10.chg cwl7 (by omega)
 refine sp rfl (px_len rfl Tryz.underlying22 f11.sv) ?_
 refine sp rfl (px_lt rfl rfl) ?_
 refine wl_nil (q_n (k9 _ _ ?_))
 refine sx_condP rfl (fun h571 => ?_) (fun h571 => ?_)
 ·
  refine sx_skip ?_
  refine q_n (k8 _ _ ?_)
  refine sx_seq fun K12 k12 => ?_
  refine sx_block ?_
  have hxl := (hs_s3).1
  refine sx_region ?_
  refine mv rfl rfl (mv rfl rfl (mv rfl rfl (mv rfl rfl (sp rfl (px_indexK (j := k) rfl rfl (by omega) Tryz.underlying22 Tryz.sizeOf93 f11.sv (by omega)) ?_))))
  refine sp rfl (px_load rfl (f11.sv.loadA (rt_look f11.len (by omega)) Tryz.isAgg93 Tryz.sizeOf93)) ?_
  refine sx_call rfl rfl Tryz.call77 (c_toRate (f11.nest k (by omega)) (hzz k (by omega))) (fun v13 w13 p13 => ?_)
  obtain ⟨s13, rfl, os_13, c13⟩ := p13
  have zw13 := c13.size
  have f14 := hs_s3.ext c13
  refine sp rfl (px_indexK (j := k) rfl rfl (by omega) Tryz.underlying33 Tryz.sizeOf99 f14.sv (by omega)) ?_
  refine sx_storeOA (vs := [.string ((ts.getD k rt0).1), .string ((ts.getD k rt0).2.1), .bool ((ts.getD k rt0).2.2.1), s13, .int .i64 ((ts.getD k rt0).2.2.2.2)]) rfl rfl f14 rfl (by simp) (by simp only [List.length_cons, List.length_nil]; omega) Tryz.sizeOf99 (one_cons rfl (one_cons rfl (one_cons rfl (one_cons os_13.one (o1 rfl))))) (fun w15 sw15 fw15 cw15 => ?_)
  have zw15 := cw15.size
  refine wl_nil ?_
  refine q_bn (q_n (k12 _ _ ?_))
  refine sx_sub (Sub.c 0 rfl (.c 3 rfl (.c 4 rfl .nil))) ?_
  refine sx_region ?_
  refine mv rfl rfl (sp rfl (px_add rfl rfl (by omega)) ?_)
  refine av rfl rfl (wl_nil ?_)
  have q16 := Chg.step (l := w.heap.size) (h := ws3.heap.size) (Chg.zero (l := w.heap.size) (h := ws3.heap.size) c13) cw15 (by omega)
  have f17 := os_13.chg cw15 (by omega)
  have q18 := Chg.step (l := w.heap.size) (h := ws3.heap.size) cwl7 c13 (by omega)
  have q19 := Chg.step (l := w.heap.size) (h := ws3.heap.size) q18 cw15 (by omega)
  exact fun a ha => ⟨_, by omega, (k + 1), (us ++ [s13]), ((xs).take (k * 5) ++ [.string ((ts.getD k rt0).1), .string ((ts.getD k rt0).2.1), .bool ((ts.getD k rt0).2.2.1), s13, .int .i64 ((ts.getD k rt0).2.2.2.2)] ++ (xs).drop (k * 5 + 5)), (rset r k w15.heap.size), ha.sub (Sub.c 0 rfl (.c 3 rfl (.c 4 (look_int (t := 4) rfl (by first | omega | simp)) .nil))), q19, (fw15.mono (by omega) (by omega)), rfl, by omega, by rw [List.length_append, hul]; rfl, rt_put (by omega) hul (by omega) hxt rfl, by rw [rset_le (Nat.zero_le _)]; exact hr0, rset_mono hrm (by omega), by rw [rset_at]; exact Nat.le_refl _, nesto_next hul hrm hne q16 hr0 (Own.mono f17 (by omega) (by omega))⟩
 refine sx_exit ?_
 refine q_e (q_e (q_bx (q_n (k4 _ _ ?_))))
 refine sx_seq fun K20 k20 => sx_region ?_
 refine mv rfl rfl (av rfl rfl (wl_nil (q_n (k20 _ _ ?_))))
 refine sx_retc ?_
 refine sx_ret1 Tryz.results33 rfl ?_
 have ek : k = ts.length := by omega
 subst ek
 have hO := hs_s3
 have q21 := Chg.step (l := 0) (h := 0) (Chg.zero (l := 0) (h := 0) cs3) cwl7 (by omega)
 exact ⟨_, us, rfl, rto_copied hO hul hxt hr0 hrm hrk hne (by omega), q21⟩

theorem c_toRates {w : World} {pv : ByteArray} {vt : Value} {lvt uvt : Nat} {ts : List Rt} {vvt : List Value} (hvt : RtS w lvt uvt vt ts vvt) (h63 : ts.length ≤ 1048576) (hzz : ∀ i, i < ts.length → (ts.getD i rt0).2.2.2.1.length ≤ 1048576) :
  Ret Tryz.prog 9 [.agg #[.string pv, vt]] w fun v w' => ∃ s us, v = .agg #[.string (pv), s] ∧ RtO w' (w.heap.size) (w'.heap.size) s 99 intT (ts) us ∧ Chg 0 0 w w' := by
 have hvt0 := hvt.fit
 refine sx_enter Tryz.func9 rfl Tryz.ntmps9 (nbl rfl) ?_
 refine sx_seq fun K1 k1 => sx_region ?_
 refine sx_box [.string pv, vt] rfl rfl rfl (fun b2 w3 eb2 sb2 fb2 cb2 => ?_)
 have zw3 := cb2.size
 refine sx_alloc [.string (⟨#[]⟩), (.slice none 0 0)] rfl Tryz.zeroValue35 rfl (fun b4 w5 eb4 sb4 fb4 cb4 => ?_)
 have zw5 := cb4.size
 refine wl_nil (q_n (k1 _ _ ?_))
 refine sx_seq fun K6 k6 => sx_region ?_
 refine sx_alloc [.string (⟨#[]⟩), (.slice none 0 0)] rfl Tryz.zeroValue35 rfl (fun b7 w8 eb7 sb7 fb7 cb7 => ?_)
 have zw8 := cb7.size
 refine wl_nil (q_n (k6 _ _ ?_))
 refine sx_seq fun K9 k9 => sx_region ?_
 refine sp rfl (px_field rfl xfld24x0) ?_
 have f10 := fb2.ext cb4
 have f11 := f10.ext cb7
 refine sp rfl (px_load rfl (f11.load1 rfl Tryz.isAgg9)) ?_
 refine sp rfl (px_field rfl xfld35x0) ?_
 refine sx_store (vs := [.string pv]) rfl rfl fb7 rfl Tryz.sizeOf9 (nbl rfl) (o1 rfl) (fun w12 sw12 fw12 cw12 => ?_)
 have zw12 := cw12.size
 have gw12 : Blk w12 b7 [.string pv, (.slice none 0 0)] 35 := fw12
 refine wl_nil (q_n (k9 _ _ ?_))
 refine sx_seq fun K13 k13 => sx_region ?_
 refine sp rfl (px_field rfl xfld24x1) ?_
 have f14 := f11.chg cw12 (by omega)
 refine sp rfl (px_load rfl (f14.load1 rfl Tryz.isAgg22)) ?_
 have f15 := hvt0.ext cb2
 have f16 := f15.ext cb4
 have f17 := f16.ext cb7
 have f18 := f17.chg cw12 (by omega)
 refine sx_call rfl rfl Tryz.call33 (c_toRateS f18 (by omega) (by assumption)) (fun v19 w19 p19 => ?_)
 obtain ⟨s19, us19, rfl, os_19, c19⟩ := p19
 have zw19 := c19.size
 refine sp rfl (px_field rfl xfld35x1) ?_
 have f21 := gw12.ext c19
 refine sx_store (vs := [v19]) rfl rfl f21 (cells_one (os_19).toS.one) Tryz.sizeOf33 (nbl rfl) (one_cons (os_19).toS.one one_nil) (fun w20 sw20 fw20 cw20 => ?_)
 have zw20 := cw20.size
 have gw20 : Blk w20 b7 [.string pv, v19] 35 := fw20
 refine wl_nil (q_n (k13 _ _ ?_))
 refine sx_seq fun K22 k22 => sx_region ?_
 refine sp rfl (px_load rfl (gw20.loadA (vs := [.string pv, v19]) (look_lit rfl) Tryz.isAgg35 Tryz.sizeOf35)) ?_
 have f24 := fb4.ext cb7
 have f25 := f24.chg cw12 (by omega)
 have f27 := (f25.ext c19).chg cw20 (by omega)
 have f28 := os_19.chg cw20 (by omega)
 refine sx_store (vs := [.string pv, v19]) rfl rfl f27 rfl Tryz.sizeOf35 (nbl rfl) (one_cons rfl (one_cons (f28).toS.one one_nil)) (fun w23 sw23 fw23 cw23 => ?_)
 have zw23 := cw23.size
 have gw23 : Blk w23 b4 [.string pv, v19] 35 := fw23
 refine wl_nil (q_n (k22 _ _ ?_))
 refine sx_retc ?_
 refine sx_ret1 Tryz.results9 ⟨_, rfl, gw23.loadA (vs := [.string pv, v19]) (look_lit rfl) Tryz.isAgg35 Tryz.sizeOf35⟩ ?_
 have f29 := f28.chg cw23 (by omega)
 have q30 := Chg.step (l := 0) (h := 0) (Chg.zero (l := 0) (h := 0) ((cb2.t cb4).t cb7)) cw12 (by omega)
 have q31 := Chg.step (l := 0) (h := 0) q30 c19 (by omega)
 have q32 := Chg.step (l := 0) (h := 0) q31 cw20 (by omega)
 have q33 := Chg.step (l := 0) (h := 0) q32 cw23 (by omega)
 exact ⟨_, _, rfl, (f29).mono (by omega) (by omega), q33⟩

theorem c_toMoney {w : World} {c1 : ByteArray} {n1 : Bool} {v1 : Value} {lv1 uv1 : Nat} {z1 : List Int} (hv1 : Sl w lv1 uv1 v1 (z1)) (bz1 : z1.length ≤ 1048576) :
  Ret Tryz.prog 20 [.agg #[.string c1, .bool n1, v1]] w fun v w' => ∃ s2, v = .agg #[.string (c1), .bool (n1), s2] ∧ OwnI w' w.heap.size w'.heap.size s2 intT (z1) ∧ Chg 0 0 w w' := by
 have hv10 := hv1.fit
 refine sx_enter Tryz.func20 rfl Tryz.ntmps20 (nbl rfl) ?_
 refine sx_seq fun K1 k1 => sx_region ?_
 refine sx_box [.string c1, .bool n1, v1] rfl rfl rfl (fun b2 w3 eb2 sb2 fb2 cb2 => ?_)
 have zw3 := cb2.size
 refine sx_alloc [.string (⟨#[]⟩), .bool false, (.slice none 0 0)] rfl Tryz.zeroValue48 rfl (fun b4 w5 eb4 sb4 fb4 cb4 => ?_)
 have zw5 := cb4.size
 refine wl_nil (q_n (k1 _ _ ?_))
 refine sx_seq fun K6 k6 => sx_region ?_
 refine sx_alloc [.string (⟨#[]⟩), .bool false, (.slice none 0 0)] rfl Tryz.zeroValue48 rfl (fun b7 w8 eb7 sb7 fb7 cb7 => ?_)
 have zw8 := cb7.size
 refine wl_nil (q_n (k6 _ _ ?_))
 refine sx_seq fun K9 k9 => sx_region ?_
 refine sp rfl (px_field rfl xfld44x0) ?_
 have f10 := fb2.ext cb4
 have f11 := f10.ext cb7
 refine sp rfl (px_load rfl (f11.load1 rfl Tryz.isAgg9)) ?_
 refine sp rfl (px_field rfl xfld48x0) ?_
 refine sx_store (vs := [.string c1]) rfl rfl fb7 rfl Tryz.sizeOf9 (nbl rfl) (o1 rfl) (fun w12 sw12 fw12 cw12 => ?_)
 have zw12 := cw12.size
 have gw12 : Blk w12 b7 [.string c1, .bool false, (.slice none 0 0)] 48 := fw12
 refine wl_nil (q_n (k9 _ _ ?_))
 refine sx_seq fun K13 k13 => sx_region ?_
 refine sp rfl (px_field rfl xfld44x1) ?_
 have f14 := f11.chg cw12 (by omega)
 refine sp rfl (px_load rfl (f14.loadA (vs := [.bool n1, v1]) (look_lit rfl) Tryz.isAgg42 Tryz.sizeOf42)) ?_
 have f15 := hv10.ext cb2
 have f16 := f15.ext cb4
 have f17 := f16.ext cb7
 have f18 := f17.chg cw12 (by omega)
 refine sx_call rfl rfl Tryz.call59 (c_toSigned f18 (by omega)) (fun v19 w19 p19 => ?_)
 obtain ⟨s119, rfl, os1_19, c19⟩ := p19
 have zw19 := c19.size
 refine sp rfl (px_field rfl xfld48x1) ?_
 have f21 := gw12.ext c19
 refine sx_store (vs := [.bool n1, s119]) rfl rfl f21 rfl Tryz.sizeOf28 (nbl rfl) (one_cons rfl (one_cons os1_19.one one_nil)) (fun w20 sw20 fw20 cw20 => ?_)
 have zw20 := cw20.size
 have gw20 : Blk w20 b7 [.string c1, .bool n1, s119] 48 := fw20
 refine wl_nil (q_n (k13 _ _ ?_))
 refine sx_seq fun K22 k22 => sx_region ?_
 refine sp rfl (px_load rfl (gw20.loadA (vs := [.string c1, .bool n1, s119]) (look_lit rfl) Tryz.isAgg48 Tryz.sizeOf48)) ?_
 have f24 := fb4.ext cb7
 have f25 := f24.chg cw12 (by omega)
 have f27 := (f25.ext c19).chg cw20 (by omega)
 have f28 := os1_19.chg cw20 (by omega)
 refine sx_store (vs := [.string c1, .bool n1, s119]) rfl rfl f27 rfl Tryz.sizeOf48 (nbl rfl) (one_cons rfl (one_cons rfl (one_cons f28.one one_nil))) (fun w23 sw23 fw23 cw23 => ?_)
 have zw23 := cw23.size
 have gw23 : Blk w23 b4 [.string c1, .bool n1, s119] 48 := fw23
 refine wl_nil (q_n (k22 _ _ ?_))
 refine sx_retc ?_
 refine sx_ret1 Tryz.results20 ⟨_, rfl, gw23.loadA (vs := [.string c1, .bool n1, s119]) (look_lit rfl) Tryz.isAgg48 Tryz.sizeOf48⟩ ?_
 have q29 := Chg.step (l := 0) (h := 0) (Chg.zero (l := 0) (h := 0) ((cb2.t cb4).t cb7)) cw12 (by omega)
 have q30 := Chg.step (l := 0) (h := 0) q29 c19 (by omega)
 have q31 := Chg.step (l := 0) (h := 0) q30 cw20 (by omega)
 have q32 := Chg.step (l := 0) (h := 0) q31 cw23 (by omega)
 have f33 := f28.chg cw23 (by omega)
 exact ⟨_, rfl, Own.mono f33 (by omega) (by omega), q32⟩

theorem c_l08Table {w : World} :
  Ret Tryz.prog 138 [] w fun v w' => ∃ sl, v = sl ∧ Own w' w.heap.size w'.heap.size sl 131 20 4 (crCells tabS) ∧ Chg 0 0 w w' := by
 refine sx_enter Tryz.func138 rfl Tryz.ntmps138 (nbl rfl) ?_
 refine sx_seq fun K1 k1 => sx_region ?_
 refine av rfl rfl (wl_nil (q_n (k1 _ _ ?_)))
 refine sx_seq fun K2 k2 => sx_region ?_
 refine sp rfl (px_build rfl (xbld131x0x1x2x3 rfl rfl rfl rfl _)) ?_
 refine sp rfl (px_build rfl (xbld131x0x1x2x3 rfl rfl rfl rfl _)) ?_
 refine sp rfl (px_build rfl (xbld131x0x1x2x3 rfl rfl rfl rfl _)) ?_
 refine sp rfl (px_build rfl (xbld131x0x1x2x3 rfl rfl rfl rfl _)) ?_
 refine sp rfl (px_build rfl (xbld131x0x1x2x3 rfl rfl rfl rfl _)) ?_
 refine sp rfl (px_build rfl (xbld131x0x1x2x3 rfl rfl rfl rfl _)) ?_
 refine sp rfl (px_build rfl (xbld131x0x1x2x3 rfl rfl rfl rfl _)) ?_
 refine sp rfl (px_build rfl (xbld131x0x1x2x3 rfl rfl rfl rfl _)) ?_
 refine sp rfl (px_build rfl (xbld131x0x1x2x3 rfl rfl rfl rfl _)) ?_
 refine sp rfl (px_build rfl (xbld131x0x1x2x3 rfl rfl rfl rfl _)) ?_
 refine sp rfl (px_build rfl (xbld131x0x1x2x3 rfl rfl rfl rfl _)) ?_
 refine sp rfl (px_build rfl (xbld131x0x1x2x3 rfl rfl rfl rfl _)) ?_
 refine sp rfl (px_build rfl (xbld131x0x1x2x3 rfl rfl rfl rfl _)) ?_
 refine sp rfl (px_build rfl (xbld131x0x1x2x3 rfl rfl rfl rfl _)) ?_
 refine sp rfl (px_build rfl (xbld131x0x1x2x3 rfl rfl rfl rfl _)) ?_
 refine sp rfl (px_build rfl (xbld131x0x1x2x3 rfl rfl rfl rfl _)) ?_
 refine sp rfl (px_build rfl (xbld131x0x1x2x3 rfl rfl rfl rfl _)) ?_
 refine sp rfl (px_build rfl (xbld131x0x1x2x3 rfl rfl rfl rfl _)) ?_
 refine sp rfl (px_build rfl (xbld131x0x1x2x3 rfl rfl rfl rfl _)) ?_
 refine sp rfl (px_build rfl (xbld131x0x1x2x3 rfl rfl rfl rfl _)) ?_
 refine sx_litG (k := 4) (e := 131) (vs := crCells tabS) rfl rfl ⟨by decide, by decide⟩ (fun w => by kernel_rfl) (fun s3 ws3 ss3 fs3 cs3 => ?_)
 have zws3 := cs3.size
 refine av rfl rfl (wl_nil (q_n (k2 _ _ ?_)))
 refine sx_sub (Sub.c 0 rfl .nil) ?_
 refine sx_retc ?_
 refine sx_ret1 Tryz.results138 rfl ?_
 exact ⟨_, rfl, fs3, cs3⟩

theorem c_l08Find {w : World} {s : ByteArray} :
  Ret Tryz.prog 107 [.string s] w fun v w' => v = .agg #[.string ((curOf s).code), .string ((curOf s).number), .int .i64 ((curOf s).places), .int .i64 ((curOf s).cash)] ∧ Chg 0 0 w w' := by
 refine sx_enter Tryz.func107 rfl Tryz.ntmps107 (nbl rfl) ?_
 refine sx_seq fun K1 k1 => sx_region ?_
 refine sx_alloc [.string (⟨#[]⟩), .string (⟨#[]⟩), .int .i64 0, .int .i64 0] rfl Tryz.zeroValue131 rfl (fun b2 w3 eb2 sb2 fb2 cb2 => ?_)
 have zw3 := cb2.size
 refine wl_nil (q_n (k1 _ _ ?_))
 refine sx_seq fun K4 k4 => ?_
 refine sx_seq fun K5 k5 => sx_region ?_
 refine sx_call rfl rfl Tryz.call138 (c_l08Table) (fun v6 w6 p6 => ?_)
 obtain ⟨sl6, rfl, osl_6, c6⟩ := p6
 have zw6 := c6.size
 refine sp rfl (px_len rfl Tryz.underlying144 osl_6.sv) ?_
 refine mv rfl rfl (wl_nil (q_n (k5 _ _ ?_)))
 refine sx_block ?_
 refine sx_loop (fun mm aa w' => ∃ (k : Nat), Agr 18 [(0, .string s), (2, .pointer (some ⟨b2, 0, none⟩)), (5, v6), (6, .int .i64 20), (7, .int .i64 ↑k)] aa ∧ Chg 0 0 w6 w' ∧ (mm = 20 - k) ∧ (k ≤ 20) ∧ (∀ i, i < k → ¬ (tabS.getD i cr0).code = s)) (20) (fun a ha => ⟨0, ha.sub (Sub.c 0 rfl (.c 2 rfl (.c 5 rfl (.c 6 rfl (.c 7 (look_int (t := 7) rfl (by first | omega | simp)) .nil))))), Chg.refl _ _ _, rfl, by omega, fun i h => by omega⟩) ?_
 rintro mm aa wl7 ⟨k, hAwl7, cwl7, hm, hk, hn⟩
 refine (show cw Tryz.prog 18 _ _ _ wl7 from ?_) aa hAwl7
 clear hAwl7
 have zwl7 := cwl7.size
 refine sx_seq fun K8 k8 => sx_region ?_
 refine sp rfl (px_lt rfl rfl) ?_
 refine wl_nil (q_n (k8 _ _ ?_))
 refine sx_seq fun K9 k9 => ?_
 refine sx_condP rfl (fun h24 => ?_) (fun h24 => ?_)
 ·
  refine sx_skip ?_
  refine q_n (k9 _ _ ?_)
  refine sx_seq fun K10 k10 => ?_
  refine sx_block ?_
  refine sx_seq fun K11 k11 => sx_region ?_
  have f12 := osl_6.ext cwl7
  refine sp rfl (px_indexK (j := k) rfl rfl (by omega) Tryz.underlying144 Tryz.sizeOf131 f12.sv (by omega)) ?_
  refine sp rfl (px_load rfl (f12.sv.loadA (cr_look (l := tabS) (k := k) (by rw [show tabS.length = 20 from rfl]; omega)) Tryz.isAgg131 Tryz.sizeOf131)) ?_
  refine sx_alloc [.string (⟨#[]⟩), .string (⟨#[]⟩), .int .i64 0, .int .i64 0] rfl Tryz.zeroValue131 rfl (fun b13 w14 eb13 sb13 fb13 cb13 => ?_)
  have zw14 := cb13.size
  refine sx_store (vs := [.string ((tabS.getD k cr0).code), .string ((tabS.getD k cr0).number), .int .i64 ((tabS.getD k cr0).places), .int .i64 ((tabS.getD k cr0).cash)]) rfl rfl fb13 rfl Tryz.sizeOf131 (nbl rfl) (one_cons rfl (o3 rfl rfl rfl)) (fun w15 sw15 fw15 cw15 => ?_)
  have zw15 := cw15.size
  have gw15 : Blk w15 b13 [.string ((tabS.getD k cr0).code), .string ((tabS.getD k cr0).number), .int .i64 ((tabS.getD k cr0).places), .int .i64 ((tabS.getD k cr0).cash)] 131 := fw15
  refine wl_nil (q_n (k11 _ _ ?_))
  refine sx_seq fun K16 k16 => sx_region ?_
  refine sp rfl (px_field rfl xfld131x0) ?_
  refine sp rfl (px_load rfl (gw15.load1 rfl Tryz.isAgg9)) ?_
  refine mv rfl rfl (sp rfl (px_eqS rfl rfl) ?_)
  refine wl_nil (q_n (k16 _ _ ?_))
  refine sx_condP rfl (fun h25 => ?_) (fun h25 => ?_)
  ·
   refine sx_seq fun K17 k17 => sx_region ?_
   refine sp rfl (px_load rfl (gw15.loadA (vs := [.string ((tabS.getD k cr0).code), .string ((tabS.getD k cr0).number), .int .i64 ((tabS.getD k cr0).places), .int .i64 ((tabS.getD k cr0).cash)]) (look_lit rfl) Tryz.isAgg131 Tryz.sizeOf131)) ?_
   have f20 := (fb2.ext c6).ext cwl7
   have f21 := f20.ext cb13
   have f22 := f21.chg cw15 (by omega)
   refine sx_store (vs := [.string ((tabS.getD k cr0).code), .string ((tabS.getD k cr0).number), .int .i64 ((tabS.getD k cr0).places), .int .i64 ((tabS.getD k cr0).cash)]) rfl rfl f22 rfl Tryz.sizeOf131 (nbl rfl) (one_cons rfl (o3 rfl rfl rfl)) (fun w18 sw18 fw18 cw18 => ?_)
   have zw18 := cw18.size
   have gw18 : Blk w18 b2 [.string ((tabS.getD k cr0).code), .string ((tabS.getD k cr0).number), .int .i64 ((tabS.getD k cr0).places), .int .i64 ((tabS.getD k cr0).cash)] 131 := fw18
   refine wl_nil (q_n (k17 _ _ ?_))
   refine sx_retc ?_
   refine q_br (q_r (q_r (q_br (q_r (sx_ret1 Tryz.results107 ⟨_, rfl, gw18.loadA (vs := [.string ((tabS.getD k cr0).code), .string ((tabS.getD k cr0).number), .int .i64 ((tabS.getD k cr0).places), .int .i64 ((tabS.getD k cr0).cash)]) (look_lit rfl) Tryz.isAgg131 Tryz.sizeOf131⟩ ?_)))))
   have e := curOf_someS (by rw [show tabS.length = 20 from rfl]; omega) hn h25
   rw [e]
   have q23 := Chg.step (l := 0) (h := 0) (Chg.zero (l := 0) (h := 0) (((cb2.t c6).t cwl7).t cb13)) cw15 (by omega)
   have q24 := Chg.step (l := 0) (h := 0) q23 cw18 (by omega)
   exact ⟨rfl, q24⟩
  refine sx_skip ?_
  refine q_bn (q_n (k10 _ _ ?_))
  refine sx_region ?_
  refine sp rfl (px_add rfl rfl (by omega)) ?_
  refine mv rfl rfl (wl_nil ?_)
  have q25 := Chg.step (l := 0) (h := 0) (Chg.zero (l := 0) (h := 0) (cwl7.t cb13)) cw15 (by omega)
  exact fun a ha => ⟨_, by omega, (k + 1), ha.sub (Sub.c 0 rfl (.c 2 rfl (.c 5 rfl (.c 6 rfl (.c 7 (look_int (t := 7) rfl (by first | omega | simp)) .nil))))), q25, rfl, by omega, upto_succ hn h25⟩
 refine sx_exit ?_
 refine q_e (q_e (q_bx (q_n (k4 _ _ ?_))))
 refine sx_seq fun K26 k26 => sx_region ?_
 refine sp rfl (px_build rfl (xbld131x  _)) ?_
 have f29 := (fb2.ext c6).ext cwl7
 refine sx_store (vs := [.string (⟨#[]⟩), .string (⟨#[]⟩), .int .i64 0, .int .i64 0]) rfl rfl f29 rfl Tryz.sizeOf131 (nbl rfl) (one_cons rfl (o3 rfl rfl rfl)) (fun w27 sw27 fw27 cw27 => ?_)
 have zw27 := cw27.size
 have gw27 : Blk w27 b2 [.string (⟨#[]⟩), .string (⟨#[]⟩), .int .i64 0, .int .i64 0] 131 := fw27
 refine wl_nil (q_n (k26 _ _ ?_))
 refine sx_retc ?_
 refine sx_ret1 Tryz.results107 ⟨_, rfl, gw27.loadA (vs := [.string (⟨#[]⟩), .string (⟨#[]⟩), .int .i64 0, .int .i64 0]) (look_lit rfl) Tryz.isAgg131 Tryz.sizeOf131⟩ ?_
 have e := curOf_noneS (s := s) (fun i hi => hn i (by rw [show tabS.length = 20 from rfl] at hi; omega))
 rw [e]
 have q30 := Chg.step (l := 0) (h := 0) (Chg.zero (l := 0) (h := 0) ((cb2.t c6).t cwl7)) cw27 (by omega)
 exact ⟨rfl, q30⟩

theorem c_sCurKnown {w : World} {s : ByteArray} :
  Ret Tryz.prog 67 [.string s] w fun v w' => v = .bool (decide (Known s)) ∧ Chg 0 0 w w' := by
 refine sx_enter Tryz.func67 rfl Tryz.ntmps67 (nbl rfl) ?_
 refine sx_seq fun K1 k1 => sx_region ?_
 refine av rfl rfl (wl_nil (q_n (k1 _ _ ?_)))
 refine sx_seq fun K2 k2 => sx_region ?_
 refine mv rfl rfl (sx_call rfl rfl Tryz.call107 (c_l08Find) (fun v3 w3 p3 => ?_))
 obtain ⟨rfl, c3⟩ := p3
 have zw3 := c3.size
 refine sp rfl (px_fieldv rfl (xfv131x0 _)) ?_
 refine sp rfl (px_neS rfl rfl) ?_
 refine av rfl rfl (wl_nil (q_n (k2 _ _ ?_)))
 refine sx_retc ?_
 refine sx_ret1 Tryz.results67 rfl ?_
 exact ⟨bIff (known_iff s).symm, c3⟩

theorem c_l01In {w : World} {n : Int} {lo : Int} {hi : Int} :
  Ret Tryz.prog 139 [.int .i64 n, .int .i64 lo, .int .i64 hi] w fun v w' => v = .bool (decide (lo ≤ n ∧ n ≤ hi)) ∧ Chg 0 0 w w' := by
 refine sx_enter Tryz.func139 rfl Tryz.ntmps139 (nbl rfl) ?_
 refine sx_seq fun K1 k1 => sx_region ?_
 refine av rfl rfl (wl_nil (q_n (k1 _ _ ?_)))
 refine sx_seq fun K2 k2 => sx_region ?_
 refine mv rfl rfl (mv rfl rfl (sp rfl (px_ge rfl rfl) ?_))
 refine mv rfl rfl ?_
 refine sx_tmpP (t := 10) rfl (fun h5 => ?_) (fun h5 => ?_)
 ·
  refine sx_guardT rfl rfl rfl ?_
  refine mv rfl rfl ?_
  refine sx_guardT rfl rfl rfl ?_
  refine mv rfl rfl ?_
  refine sx_guardT rfl rfl rfl ?_
  refine sp rfl (px_le rfl rfl) ?_
  refine sp rfl (px_pick rfl rfl) ?_
  refine av rfl rfl (wl_nil (q_n (k2 _ _ ?_)))
  refine sx_retc ?_
  refine sx_ret1 Tryz.results139 rfl ?_
  exact ⟨(by first | exact bIff (by omega) | exact bFalse (by omega) | exact bTrue (by omega)), (Chg.refl 0 0 _)⟩
 refine sx_guardF rfl rfl rfl rfl rfl rfl ?_
 refine sx_guardF rfl rfl rfl rfl rfl rfl ?_
 refine sx_guardF rfl rfl rfl rfl rfl rfl ?_
 refine sp rfl (px_pick rfl rfl) ?_
 refine av rfl rfl (wl_nil (q_n (k2 _ _ ?_)))
 refine sx_retc ?_
 refine sx_ret1 Tryz.results139 rfl ?_
 exact ⟨(by first | exact bIff (by omega) | exact bFalse (by omega) | exact bTrue (by omega)), (Chg.refl 0 0 _)⟩

theorem c_sNatOk {w : World} {va : Value} {lva uva : Nat} {zs : List Int} (hva : Sl w lva uva va (zs)) (h63 : zs.length ≤ 4611686018427387904) :
  Ret Tryz.prog 110 [va] w fun v w' => v = .bool (decide (NOk zs)) ∧ Chg 0 0 w w' := by
 have hva0 := hva.fit
 refine sx_enter Tryz.func110 rfl Tryz.ntmps110 (nbl rfl) ?_
 refine sx_seq fun K1 k1 => sx_region ?_
 refine av rfl rfl (wl_nil (q_n (k1 _ _ ?_)))
 refine sx_seq fun K2 k2 => ?_
 refine sx_seq fun K3 k3 => sx_region ?_
 refine mv rfl rfl (sp rfl (px_len rfl Tryz.underlying26 hva0) ?_)
 refine mv rfl rfl (wl_nil (q_n (k3 _ _ ?_)))
 refine sx_block ?_
 refine sx_loop (fun mm aa w' => ∃ (k : Nat), Agr 32 [(0, va), (5, va), (6, .int .i64 ↑zs.length), (7, .int .i64 ↑k)] aa ∧ Chg 0 0 w w' ∧ (mm = zs.length - k) ∧ (k ≤ zs.length) ∧ (∀ i, i < k → 0 ≤ zs.getD i 0 ∧ zs.getD i 0 < 1000000000)) (_) (fun a ha => ⟨0, ha.sub (Sub.c 0 rfl (.c 5 rfl (.c 6 (look_int (t := 6) rfl (by first | omega | simp)) (.c 7 (look_int (t := 7) rfl (by first | omega | simp)) .nil)))), Chg.refl _ _ _, rfl, by omega, fun i h => by omega⟩) ?_
 rintro mm aa wl4 ⟨k, hAwl4, cwl4, hm, hk, hall⟩
 refine (show cw Tryz.prog 32 _ _ _ wl4 from ?_) aa hAwl4
 clear hAwl4
 have zwl4 := cwl4.size
 refine sx_seq fun K5 k5 => sx_region ?_
 refine sp rfl (px_lt rfl rfl) ?_
 refine wl_nil (q_n (k5 _ _ ?_))
 refine sx_seq fun K6 k6 => ?_
 refine sx_condP rfl (fun h7 => ?_) (fun h7 => ?_)
 ·
  refine sx_skip ?_
  refine q_n (k6 _ _ ?_)
  refine sx_seq fun K7 k7 => ?_
  refine sx_block ?_
  refine sx_seq fun K8 k8 => sx_region ?_
  have f9 := hva0.ext cwl4
  refine sp rfl (px_index1 (j := k) rfl rfl (by omega) Tryz.underlying26 Tryz.sizeOf3 f9 (by omega)) ?_
  refine sp rfl (px_load rfl (f9.load1 (at_int (by omega)) Tryz.isAgg3)) ?_
  refine av rfl rfl (wl_nil (q_n (k8 _ _ ?_)))
  refine sx_seq fun K10 k10 => sx_region ?_
  refine mv rfl rfl (sx_call rfl rfl Tryz.call139 (c_l01In) (fun v11 w11 p11 => ?_))
  obtain ⟨rfl, c11⟩ := p11
  have zw11 := c11.size
  refine sp rfl (px_notP rfl) ?_
  refine wl_nil (q_n (k10 _ _ ?_))
  refine sx_condP rfl (fun h8 => ?_) (fun h8 => ?_)
  ·
   refine sx_seq fun K12 k12 => sx_region ?_
   refine av rfl rfl (wl_nil (q_n (k12 _ _ ?_)))
   refine sx_retc ?_
   refine q_br (q_r (q_r (q_br (q_r (sx_ret1 Tryz.results110 rfl ?_)))))
   exact ⟨bFalse (fun h => by have h1 := h.1.getD k; omega), (cwl4.t c11)⟩
  refine sx_skip ?_
  refine q_bn (q_n (k7 _ _ ?_))
  refine sx_region ?_
  refine sp rfl (px_add rfl rfl (by omega)) ?_
  refine mv rfl rfl (wl_nil ?_)
  exact fun a ha => ⟨_, by omega, (k + 1), ha.sub (Sub.c 0 rfl (.c 5 rfl (.c 6 rfl (.c 7 (look_int (t := 7) rfl (by first | omega | simp)) .nil)))), (cwl4.t c11), rfl, by omega, lm_succ hall (by omega)⟩
 refine sx_exit ?_
 refine q_e (q_e (q_bx (q_n (k2 _ _ ?_))))
 refine sx_seq fun K13 k13 => ?_
 have ek : k = zs.length := by omega
 have hz : Lm zs := lm_mem (by rw [← ek]; exact hall)
 refine sx_region ?_
 refine mv rfl rfl ?_
 have f14 := hva0.ext cwl4
 refine sp rfl (px_len rfl Tryz.underlying26 f14) ?_
 refine sp rfl (px_le rfl rfl) ?_
 refine mv rfl rfl ?_
 refine sx_tmpP (t := 18) rfl (fun h12 => ?_) (fun h12 => ?_)
 ·
  refine sx_guardT rfl rfl rfl ?_
  refine mv rfl rfl ?_
  refine sx_guardT rfl rfl rfl ?_
  refine sp rfl (px_len rfl Tryz.underlying26 f14) ?_
  refine sx_guardT rfl rfl rfl ?_
  refine sp rfl (px_eq rfl rfl) ?_
  refine sx_guardT rfl rfl rfl ?_
  refine mv rfl rfl ?_
  refine sx_tmpP (t := 22) rfl (fun h12x1 => ?_) (fun h12x1 => ?_)
  ·
   refine sx_guardF rfl rfl rfl rfl rfl rfl ?_
   refine sx_guardF rfl rfl rfl rfl rfl rfl ?_
   refine sx_guardF rfl rfl rfl rfl rfl rfl ?_
   refine sx_guardF rfl rfl rfl rfl rfl rfl ?_
   refine sx_guardF rfl rfl rfl rfl rfl rfl ?_
   refine sx_guardF rfl rfl rfl rfl rfl rfl ?_
   refine sx_guardF rfl rfl rfl rfl rfl rfl ?_
   refine sx_guardT rfl rfl rfl ?_
   refine sp rfl (px_pick rfl rfl) ?_
   refine sp rfl (px_pick rfl rfl) ?_
   refine av rfl rfl (wl_nil (q_n (k13 _ _ ?_)))
   refine sx_sub (Sub.c 2 rfl .nil) ?_
   refine sx_retc ?_
   refine sx_ret1 Tryz.results110 rfl ?_
   exact ⟨(by first | exact bFalse (fun h => by have h1 := h.2.1; omega) | exact bTrue (NOk_mk hz (by omega) (.inl (by omega))) | exact bIff (NOk_iff hz (by omega) (by omega))), cwl4⟩
  refine sx_guardT rfl rfl rfl ?_
  refine mv rfl rfl ?_
  refine sx_guardT rfl rfl rfl ?_
  refine mv rfl rfl ?_
  refine sx_guardT rfl rfl rfl ?_
  refine sp rfl (px_len rfl Tryz.underlying26 f14) ?_
  refine sx_guardT rfl rfl rfl ?_
  refine sp rfl (px_sub rfl rfl (by omega)) ?_
  refine sx_guardT rfl rfl rfl ?_
  refine sp rfl (px_index1 (j := (zs.length - 1)) rfl rfl (by omega) Tryz.underlying26 Tryz.sizeOf3 f14 (by omega)) ?_
  refine sx_guardT rfl rfl rfl ?_
  refine sp rfl (px_load rfl (f14.load1 (at_int (by omega)) Tryz.isAgg3)) ?_
  refine sx_guardT rfl rfl rfl ?_
  refine sp rfl (px_ne rfl rfl) ?_
  refine sx_guardT rfl rfl rfl ?_
  refine sp rfl (px_pick rfl rfl) ?_
  refine sp rfl (px_pick rfl rfl) ?_
  refine av rfl rfl (wl_nil (q_n (k13 _ _ ?_)))
  refine sx_sub (Sub.c 2 rfl .nil) ?_
  refine sx_retc ?_
  refine sx_ret1 Tryz.results110 rfl ?_
  exact ⟨(by first | exact bFalse (fun h => by have h1 := h.2.1; omega) | exact bTrue (NOk_mk hz (by omega) (.inl (by omega))) | exact bIff (NOk_iff hz (by omega) (by omega))), cwl4⟩
 refine sx_guardF rfl rfl rfl rfl rfl rfl ?_
 refine sx_guardF rfl rfl rfl rfl rfl rfl ?_
 refine sx_guardF rfl rfl rfl rfl rfl rfl ?_
 refine sx_guardF rfl rfl rfl rfl rfl rfl ?_
 refine sx_guardFU rfl rfl rfl rfl rfl ?_
 refine sx_guardFU rfl rfl rfl rfl rfl ?_
 refine sx_guardFU rfl rfl rfl rfl rfl ?_
 refine sx_guardFU rfl rfl rfl rfl rfl ?_
 refine sx_guardFU rfl rfl rfl rfl rfl ?_
 refine sx_guardFU rfl rfl rfl rfl rfl ?_
 refine sx_guardFU rfl rfl rfl rfl rfl ?_
 refine sx_guardF rfl rfl rfl rfl rfl rfl ?_
 refine sp rfl (px_pick rfl rfl) ?_
 refine av rfl rfl (wl_nil (q_n (k13 _ _ ?_)))
 refine sx_sub (Sub.c 2 rfl .nil) ?_
 refine sx_retc ?_
 refine sx_ret1 Tryz.results110 rfl ?_
 exact ⟨(by first | exact bFalse (fun h => by have h1 := h.2.1; omega) | exact bTrue (NOk_mk hz (by omega) (.inl (by omega))) | exact bIff (NOk_iff hz (by omega) (by omega))), cwl4⟩

theorem c_sIntOk {w : World} {n1 : Bool} {v1 : Value} {lv1 uv1 : Nat} {z1 : List Int} (hv1 : Sl w lv1 uv1 v1 (z1)) (h63 : z1.length ≤ 4611686018427387904) :
  Ret Tryz.prog 95 [.agg #[.bool n1, v1]] w fun v w' => v = .bool (decide (IOk n1 z1)) ∧ Chg 0 0 w w' := by
 have hv10 := hv1.fit
 refine sx_enter Tryz.func95 rfl Tryz.ntmps95 (nbl rfl) ?_
 refine sx_seq fun K1 k1 => sx_region ?_
 refine sx_box [.bool n1, v1] rfl rfl rfl (fun b2 w3 eb2 sb2 fb2 cb2 => ?_)
 have zw3 := cb2.size
 refine av rfl rfl (wl_nil (q_n (k1 _ _ ?_)))
 refine sx_seq fun K4 k4 => sx_region ?_
 refine sp rfl (px_field rfl xfld28x1) ?_
 refine sp rfl (px_load rfl (fb2.load1 rfl Tryz.isAgg26)) ?_
 have f5 := hv10.ext cb2
 refine sx_call rfl rfl Tryz.call110 (c_sNatOk f5 (by omega)) (fun v6 w6 p6 => ?_)
 obtain ⟨rfl, c6⟩ := p6
 have zw6 := c6.size
 refine mv rfl rfl ?_
 refine sx_tmpP (t := 6) rfl (fun h6 => ?_) (fun h6 => ?_)
 ·
  refine sx_guardT rfl rfl rfl ?_
  refine sp rfl (px_field rfl xfld28x0) ?_
  refine sx_guardT rfl rfl rfl ?_
  have f7 := fb2.ext c6
  refine sp rfl (px_load rfl (f7.load1 rfl Tryz.isAgg4)) ?_
  refine sx_guardT rfl rfl rfl ?_
  refine sp rfl (px_not rfl) ?_
  refine sx_guardT rfl rfl rfl ?_
  refine mv rfl rfl ?_
  refine sx_tmpB (t := 10) rfl (fun h6x1 => ?_) (fun h6x1 => ?_)
  ·
   refine sx_guardF rfl rfl rfl rfl rfl rfl ?_
   refine sx_guardF rfl rfl rfl rfl rfl rfl ?_
   refine sx_guardF rfl rfl rfl rfl rfl rfl ?_
   refine sx_guardF rfl rfl rfl rfl rfl rfl ?_
   refine sx_guardT rfl rfl rfl ?_
   refine sp rfl (px_pick rfl rfl) ?_
   refine sp rfl (px_pick rfl rfl) ?_
   refine av rfl rfl (wl_nil (q_n (k4 _ _ ?_)))
   refine sx_sub (Sub.c 2 rfl .nil) ?_
   refine sx_retc ?_
   refine sx_ret1 Tryz.results95 rfl ?_
   exact ⟨(by first | exact bTrue (by grind [IOk]) | exact bFalse (by grind [IOk]) | exact bIff (by grind [IOk])), (cb2.t c6)⟩
  refine sx_guardT rfl rfl rfl ?_
  refine sp rfl (px_field rfl xfld28x1) ?_
  refine sx_guardT rfl rfl rfl ?_
  refine sp rfl (px_load rfl (f7.load1 rfl Tryz.isAgg26)) ?_
  refine sx_guardT rfl rfl rfl ?_
  have f8 := f5.ext c6
  refine sp rfl (px_len rfl Tryz.underlying26 f8) ?_
  refine sx_guardT rfl rfl rfl ?_
  refine sp rfl (px_gt rfl rfl) ?_
  refine sx_guardT rfl rfl rfl ?_
  refine sp rfl (px_pick rfl rfl) ?_
  refine sp rfl (px_pick rfl rfl) ?_
  refine av rfl rfl (wl_nil (q_n (k4 _ _ ?_)))
  refine sx_sub (Sub.c 2 rfl .nil) ?_
  refine sx_retc ?_
  refine sx_ret1 Tryz.results95 rfl ?_
  exact ⟨(by first | exact bTrue (by grind [IOk]) | exact bFalse (by grind [IOk]) | exact bIff (by grind [IOk])), (cb2.t c6)⟩
 refine sx_guardF rfl rfl rfl rfl rfl rfl ?_
 refine sx_guardF rfl rfl rfl rfl rfl rfl ?_
 refine sx_guardF rfl rfl rfl rfl rfl rfl ?_
 refine sx_guardF rfl rfl rfl rfl rfl rfl ?_
 refine sx_guardFU rfl rfl rfl rfl rfl ?_
 refine sx_guardFU rfl rfl rfl rfl rfl ?_
 refine sx_guardFU rfl rfl rfl rfl rfl ?_
 refine sx_guardFU rfl rfl rfl rfl rfl ?_
 refine sx_guardF rfl rfl rfl rfl rfl rfl ?_
 refine sp rfl (px_pick rfl rfl) ?_
 refine av rfl rfl (wl_nil (q_n (k4 _ _ ?_)))
 refine sx_sub (Sub.c 2 rfl .nil) ?_
 refine sx_retc ?_
 refine sx_ret1 Tryz.results95 rfl ?_
 exact ⟨(by first | exact bTrue (by grind [IOk]) | exact bFalse (by grind [IOk]) | exact bIff (by grind [IOk])), (cb2.t c6)⟩

theorem c_sDecOk {w : World} {n1 : Bool} {v1 : Value} {lv1 uv1 : Nat} {z1 : List Int} {p1 : Int} (hv1 : Sl w lv1 uv1 v1 (z1)) (h63 : z1.length ≤ 4611686018427387904) :
  Ret Tryz.prog 109 [.agg #[.bool n1, v1, .int .i64 p1]] w fun v w' => v = .bool (decide (DOk n1 z1 p1)) ∧ Chg 0 0 w w' := by
 have hv10 := hv1.fit
 refine sx_enter Tryz.func109 rfl Tryz.ntmps109 (nbl rfl) ?_
 refine sx_seq fun K1 k1 => sx_region ?_
 refine sx_box [.bool n1, v1, .int .i64 p1] rfl rfl rfl (fun b2 w3 eb2 sb2 fb2 cb2 => ?_)
 have zw3 := cb2.size
 refine av rfl rfl (wl_nil (q_n (k1 _ _ ?_)))
 refine sx_seq fun K4 k4 => sx_region ?_
 refine sp rfl (px_field rfl xfld63x0) ?_
 refine sp rfl (px_load rfl (fb2.loadA (vs := [.bool n1, v1]) (look_lit rfl) Tryz.isAgg28 Tryz.sizeOf28)) ?_
 have f5 := hv10.ext cb2
 refine sx_call rfl rfl Tryz.call95 (c_sIntOk f5 (by omega)) (fun v6 w6 p6 => ?_)
 obtain ⟨rfl, c6⟩ := p6
 have zw6 := c6.size
 refine mv rfl rfl ?_
 refine sx_tmpP (t := 6) rfl (fun h7 => ?_) (fun h7 => ?_)
 ·
  refine sx_guardT rfl rfl rfl ?_
  refine sp rfl (px_field rfl xfld63x0) ?_
  refine sx_guardT rfl rfl rfl ?_
  refine sp rfl (px_field rfl xfld28x1) ?_
  refine sx_guardT rfl rfl rfl ?_
  have f7 := fb2.ext c6
  refine sp rfl (px_load rfl (f7.load1 rfl Tryz.isAgg26)) ?_
  refine sx_guardT rfl rfl rfl ?_
  have f8 := f5.ext c6
  refine sp rfl (px_len rfl Tryz.underlying26 f8) ?_
  refine sx_guardT rfl rfl rfl ?_
  refine sp rfl (px_le rfl rfl) ?_
  refine sp rfl (px_pick rfl rfl) ?_
  refine mv rfl rfl ?_
  refine sx_tmpP (t := 13) rfl (fun h7x1 => ?_) (fun h7x1 => ?_)
  ·
   refine sx_guardT rfl rfl rfl ?_
   refine sp rfl (px_field rfl xfld63x1) ?_
   refine sx_guardT rfl rfl rfl ?_
   refine sp rfl (px_load rfl (f7.load1 rfl Tryz.isAgg3)) ?_
   refine sx_guardT rfl rfl rfl ?_
   refine sx_call rfl rfl Tryz.call139 (c_l01In) (fun v9 w9 p9 => ?_)
   obtain ⟨rfl, c9⟩ := p9
   have zw9 := c9.size
   refine sp rfl (px_pick rfl rfl) ?_
   refine av rfl rfl (wl_nil (q_n (k4 _ _ ?_)))
   refine sx_sub (Sub.c 2 rfl .nil) ?_
   refine sx_retc ?_
   refine sx_ret1 Tryz.results109 rfl ?_
   exact ⟨(by first | exact bTrue (by grind [DOk]) | exact bFalse (by grind [DOk]) | exact bIff (by grind [DOk])), ((cb2.t c6).t c9)⟩
  refine sx_guardF rfl rfl rfl rfl rfl rfl ?_
  refine sx_guardF rfl rfl rfl rfl rfl rfl ?_
  refine sx_guardF rfl rfl rfl rfl rfl rfl ?_
  refine sp rfl (px_pick rfl rfl) ?_
  refine av rfl rfl (wl_nil (q_n (k4 _ _ ?_)))
  refine sx_sub (Sub.c 2 rfl .nil) ?_
  refine sx_retc ?_
  refine sx_ret1 Tryz.results109 rfl ?_
  exact ⟨(by first | exact bTrue (by grind [DOk]) | exact bFalse (by grind [DOk]) | exact bIff (by grind [DOk])), (cb2.t c6)⟩
 refine sx_guardF rfl rfl rfl rfl rfl rfl ?_
 refine sx_guardF rfl rfl rfl rfl rfl rfl ?_
 refine sx_guardF rfl rfl rfl rfl rfl rfl ?_
 refine sx_guardF rfl rfl rfl rfl rfl rfl ?_
 refine sx_guardF rfl rfl rfl rfl rfl rfl ?_
 refine sp rfl (px_pick rfl rfl) ?_
 refine mv rfl rfl ?_
 refine sx_guardF rfl rfl rfl rfl rfl rfl ?_
 refine sx_guardF rfl rfl rfl rfl rfl rfl ?_
 refine sx_guardF rfl rfl rfl rfl rfl rfl ?_
 refine sp rfl (px_pick rfl rfl) ?_
 refine av rfl rfl (wl_nil (q_n (k4 _ _ ?_)))
 refine sx_sub (Sub.c 2 rfl .nil) ?_
 refine sx_retc ?_
 refine sx_ret1 Tryz.results109 rfl ?_
 exact ⟨(by first | exact bTrue (by grind [DOk]) | exact bFalse (by grind [DOk]) | exact bIff (by grind [DOk])), (cb2.t c6)⟩

theorem c_l02Cmp {w : World} {va : Value} {lva uva : Nat} {zs : List Int} {vb : Value} {lvb uvb : Nat} {ys : List Int} (hva : Sl w lva uva va (zs)) (hvb : Sl w lvb uvb vb (ys)) (h63 : zs.length ≤ 4611686018427387904 ∧ ys.length ≤ 4611686018427387904) :
  Ret Tryz.prog 111 [va, vb] w fun v w' => v = .int .i64 (cmpL zs ys) ∧ Chg 0 0 w w' := by
 have hva0 := hva.fit
 have hvb0 := hvb.fit
 have zs0 : zs.drop zs.length = [] := by simp
 have ys0 : ys.drop ys.length = [] := by simp
 refine sx_enter Tryz.func111 rfl Tryz.ntmps111 (nbl rfl) ?_
 refine sx_seq fun K1 k1 => sx_region ?_
 refine av rfl rfl (wl_nil (q_n (k1 _ _ ?_)))
 refine sx_seq fun K2 k2 => ?_
 refine sx_seq fun K3 k3 => sx_region ?_
 refine mv rfl rfl (sp rfl (px_len rfl Tryz.underlying26 hva0) ?_)
 refine mv rfl rfl (sp rfl (px_len rfl Tryz.underlying26 hvb0) ?_)
 refine sp rfl (px_ne rfl rfl) ?_
 refine wl_nil (q_n (k3 _ _ ?_))
 refine sx_condP rfl (fun h54 => ?_) (fun h54 => ?_)
 ·
  refine sx_seq fun K4 k4 => ?_
  refine sx_seq fun K5 k5 => sx_region ?_
  refine mv rfl rfl (sp rfl (px_len rfl Tryz.underlying26 hva0) ?_)
  refine mv rfl rfl (sp rfl (px_len rfl Tryz.underlying26 hvb0) ?_)
  refine sp rfl (px_lt rfl rfl) ?_
  refine wl_nil (q_n (k5 _ _ ?_))
  refine sx_condP rfl (fun h55 => ?_) (fun h55 => ?_)
  ·
   refine sx_seq fun K6 k6 => sx_region ?_
   refine av rfl rfl (wl_nil (q_n (k6 _ _ ?_)))
   refine sx_retc ?_
   refine q_r (q_r (sx_ret1 Tryz.results111 rfl ?_))
   exact ⟨iEq (cmpL_short (by omega)).symm, (Chg.refl 0 0 _)⟩
  refine sx_skip ?_
  refine q_n (k4 _ _ ?_)
  refine sx_seq fun K7 k7 => sx_region ?_
  refine av rfl rfl (wl_nil (q_n (k7 _ _ ?_)))
  refine sx_retc ?_
  refine q_r (sx_ret1 Tryz.results111 rfl ?_)
  exact ⟨iEq (cmpL_long (by omega)).symm, (Chg.refl 0 0 _)⟩
 refine sx_skip ?_
 refine q_n (k2 _ _ ?_)
 refine sx_seq fun K8 k8 => ?_
 refine sx_seq fun K9 k9 => sx_region ?_
 refine mv rfl rfl (sp rfl (px_len rfl Tryz.underlying26 hva0) ?_)
 refine sp rfl (px_sub rfl rfl (by omega)) ?_
 refine av rfl rfl (wl_nil (q_n (k9 _ _ ?_)))
 refine sx_block ?_
 have e00 : zs.length = ys.length := by omega
 have he0 : zs.drop zs.length = ys.drop zs.length := by rw [zs0, e00, ys0]
 refine sx_loop (fun mm aa w' => ∃ (k : Nat), Agr 41 [(0, va), (1, vb), (5, .int .i64 (↑k - 1))] aa ∧ Chg 0 0 w w' ∧ (mm = k) ∧ (k ≤ zs.length) ∧ (zs.drop k = ys.drop k)) (_) (fun a ha => ⟨zs.length, ha.sub (Sub.c 0 rfl (.c 1 rfl (.c 5 (look_int (t := 5) rfl (by first | omega | simp)) .nil))), Chg.refl _ _ _, rfl, by omega, he0⟩) ?_
 rintro mm aa wl10 ⟨k, hAwl10, cwl10, hm, hk, he⟩
 refine (show cw Tryz.prog 41 _ _ _ wl10 from ?_) aa hAwl10
 clear hAwl10
 have zwl10 := cwl10.size
 have hl : zs.length = ys.length := by omega
 refine sx_seq fun K11 k11 => ?_
 refine sx_seq fun K12 k12 => sx_region ?_
 refine mv rfl rfl (sp rfl (px_ge rfl rfl) ?_)
 refine wl_nil (q_n (k12 _ _ ?_))
 refine sx_condP rfl (fun h60 => ?_) (fun h60 => ?_)
 ·
  refine sx_skip ?_
  refine q_n (k11 _ _ ?_)
  refine sx_seq fun K13 k13 => ?_
  refine sx_block ?_
  refine sx_seq fun K14 k14 => ?_
  refine sx_seq fun K15 k15 => ?_
  have f16 := hva0.ext cwl10
  have f17 := hvb0.ext cwl10
  refine dx_region (fun w' => Chg 0 0 wl10 w') (by kernel_rfl) (Chg.zero (Chg.drew _)) ?_
  have d18 := Chg.drew wl10
  have s18 : Chg 0 0 wl10 (World.drew wl10) := Chg.zero (Chg.drew _)
  have y18 : (World.drew wl10).heap.size = wl10.heap.size := rfl
  generalize World.drew wl10 = w18 at *
  have zw18 := d18.size
  refine dt 0 rfl rfl rfl rfl s18 (fun _ hS => px_move rfl) ?_
  refine dt 1 rfl rfl rfl rfl s18 (fun _ hS => px_move rfl) ?_
  refine dt 2 rfl rfl rfl rfl s18 (fun _ hS => px_index1 (j := (k - 1)) rfl rfl (by omega) Tryz.underlying26 Tryz.sizeOf3 ((f16).chg hS (by omega)) (by omega)) ?_
  refine dt 3 rfl rfl rfl rfl s18 (fun _ hS => px_load rfl (((f16).chg hS (by omega)).load1 (at_int (by omega)) Tryz.isAgg3)) ?_
  refine dt 4 rfl rfl rfl rfl s18 (fun _ hS => px_move rfl) ?_
  refine dt 5 rfl rfl rfl rfl s18 (fun _ hS => px_move rfl) ?_
  refine dt 6 rfl rfl rfl rfl s18 (fun _ hS => px_index1 (j := (k - 1)) rfl rfl (by omega) Tryz.underlying26 Tryz.sizeOf3 ((f17).chg hS (by omega)) (by omega)) ?_
  refine dt 7 rfl rfl rfl rfl s18 (fun _ hS => px_load rfl (((f17).chg hS (by omega)).load1 (at_int (by omega)) Tryz.isAgg3)) ?_
  refine dt 8 rfl rfl rfl rfl s18 (fun _ hS => px_lt rfl rfl) ?_
  refine dx_done (by kernel_rfl) ?_
  refine q_n (k15 _ _ ?_)
  refine sx_condP rfl (fun h61 => ?_) (fun h61 => ?_)
  ·
   refine sx_seq fun K19 k19 => sx_region ?_
   refine av rfl rfl (wl_nil (q_n (k19 _ _ ?_)))
   refine sx_sub (Sub.c 0 rfl (.c 1 rfl (.c 4 rfl (.c 5 rfl .nil)))) ?_
   refine sx_retc ?_
   refine q_r (q_br (q_r (q_r (q_br (q_r (sx_ret1 Tryz.results111 rfl ?_))))))
   have hlt := cmpL_lt hl (k := k - 1) (by omega) (by rw [Nat.sub_add_cancel (by omega)]; exact he) (h61)
   exact ⟨iEq hlt.symm, (cwl10.t d18)⟩
  refine sx_skip ?_
  refine q_n (k14 _ _ ?_)
  refine sx_seq fun K20 k20 => ?_
  have f21 := f16.ext d18
  have f22 := f17.ext d18
  refine dx_region (fun w' => Chg 0 0 w18 w') (by kernel_rfl) (Chg.zero (Chg.drew _)) ?_
  have d23 := Chg.drew w18
  have s23 : Chg 0 0 w18 (World.drew w18) := Chg.zero (Chg.drew _)
  have y23 : (World.drew w18).heap.size = w18.heap.size := rfl
  generalize World.drew w18 = w23 at *
  have zw23 := d23.size
  refine dt 0 rfl rfl rfl rfl s23 (fun _ hS => px_move rfl) ?_
  refine dt 1 rfl rfl rfl rfl s23 (fun _ hS => px_move rfl) ?_
  refine dt 2 rfl rfl rfl rfl s23 (fun _ hS => px_index1 (j := (k - 1)) rfl rfl (by omega) Tryz.underlying26 Tryz.sizeOf3 ((f21).chg hS (by omega)) (by omega)) ?_
  refine dt 3 rfl rfl rfl rfl s23 (fun _ hS => px_load rfl (((f21).chg hS (by omega)).load1 (at_int (by omega)) Tryz.isAgg3)) ?_
  refine dt 4 rfl rfl rfl rfl s23 (fun _ hS => px_move rfl) ?_
  refine dt 5 rfl rfl rfl rfl s23 (fun _ hS => px_move rfl) ?_
  refine dt 6 rfl rfl rfl rfl s23 (fun _ hS => px_index1 (j := (k - 1)) rfl rfl (by omega) Tryz.underlying26 Tryz.sizeOf3 ((f22).chg hS (by omega)) (by omega)) ?_
  refine dt 7 rfl rfl rfl rfl s23 (fun _ hS => px_load rfl (((f22).chg hS (by omega)).load1 (at_int (by omega)) Tryz.isAgg3)) ?_
  refine dt 8 rfl rfl rfl rfl s23 (fun _ hS => px_gt rfl rfl) ?_
  refine dx_done (by kernel_rfl) ?_
  refine q_n (k20 _ _ ?_)
  refine sx_sub (Sub.c 0 rfl (.c 1 rfl (.c 5 rfl (.c 40 rfl .nil)))) ?_
  refine sx_condP rfl (fun h64 => ?_) (fun h64 => ?_)
  ·
   refine sx_seq fun K24 k24 => sx_region ?_
   refine av rfl rfl (wl_nil (q_n (k24 _ _ ?_)))
   refine sx_retc ?_
   refine q_br (q_r (q_r (q_br (q_r (sx_ret1 Tryz.results111 rfl ?_)))))
   have hlt := cmpL_gt hl (k := k - 1) (by omega) (by rw [Nat.sub_add_cancel (by omega)]; exact he) (h64)
   exact ⟨iEq hlt.symm, ((cwl10.t d18).t d23)⟩
  refine sx_skip ?_
  refine q_bn (q_n (k13 _ _ ?_))
  refine sx_region ?_
  refine mv rfl rfl (sp rfl (px_sub rfl rfl (by omega)) ?_)
  refine av rfl rfl (wl_nil ?_)
  exact fun a ha => ⟨_, by omega, (k - 1), ha.sub (Sub.c 0 rfl (.c 1 rfl (.c 5 (look_int (t := 5) rfl (by first | omega | simp)) .nil))), ((cwl10.t d18).t d23), rfl, by omega, drop_succ_eq (by omega) (by omega) (by rw [Nat.sub_add_cancel (by omega)]; exact he) (by omega)⟩
 refine sx_exit ?_
 refine q_e (q_e (q_bx (q_n (k8 _ _ ?_))))
 refine sx_seq fun K25 k25 => sx_region ?_
 refine av rfl rfl (wl_nil (q_n (k25 _ _ ?_)))
 refine sx_retc ?_
 refine sx_ret1 Tryz.results111 rfl ?_
 have e1 : k = 0 := by omega
 subst e1
 have e2 : zs = ys := by simpa using he
 subst e2
 exact ⟨iEq (cmpL_self zs).symm, cwl10⟩

theorem c_IntCmp {w : World} {va : Value} {lva uva : Nat} {x : Int} {vb : Value} {lvb uvb : Nat} {y : Int} (hva : Sl w lva uva va (dg x.natAbs)) (hvb : Sl w lvb uvb vb (dg y.natAbs)) (hbx : (dg x.natAbs).length ≤ 50) (hby : (dg y.natAbs).length ≤ 50) :
  Ret Tryz.prog 150 [.agg #[.bool (ng x), va], .agg #[.bool (ng y), vb]] w fun v w' => v = .int .i64 (cmpI x y) ∧ Chg 0 0 w w' := by
 have hva0 := hva.fit
 have hvb0 := hvb.fit
 refine sx_enter Tryz.func150 rfl Tryz.ntmps150 (nbl rfl) ?_
 refine sx_seq fun K1 k1 => sx_region ?_
 refine sx_box [.bool (ng x), va] rfl rfl rfl (fun b2 w3 eb2 sb2 fb2 cb2 => ?_)
 have zw3 := cb2.size
 refine sx_box [.bool (ng y), vb] rfl rfl rfl (fun b4 w5 eb4 sb4 fb4 cb4 => ?_)
 have zw5 := cb4.size
 refine av rfl rfl (wl_nil (q_n (k1 _ _ ?_)))
 refine sx_seq fun K6 k6 => ?_
 refine sx_block ?_
 refine sx_seq fun K7 k7 => sx_region ?_
 have f8 := fb2.ext cb4
 refine sp rfl (px_load rfl (f8.loadA (vs := [.bool (ng x), va]) (look_lit rfl) Tryz.isAgg28 Tryz.sizeOf28)) ?_
 have f9 := hva0.ext cb2
 have f10 := f9.ext cb4
 refine sx_call rfl rfl Tryz.call95 (c_sIntOk f10 (by omega)) (fun v11 w11 p11 => ?_)
 obtain ⟨rfl, c11⟩ := p11
 have zw11 := c11.size
 refine sp rfl (px_notP rfl) ?_
 refine mv rfl rfl ?_
 have h89 : ¬ (¬ (IOk (ng x) (dg x.natAbs))) := by first | exact fun h => h (IOk_ng (by omega)) | exact fun h => h (IOk_ng (by assumption))
 refine sx_tmpPF (t := 9) rfl h89 ?_
 refine sx_guardT rfl rfl rfl ?_
 have f12 := fb4.ext c11
 refine sp rfl (px_load rfl (f12.loadA (vs := [.bool (ng y), vb]) (look_lit rfl) Tryz.isAgg28 Tryz.sizeOf28)) ?_
 refine sx_guardT rfl rfl rfl ?_
 have f13 := hvb0.ext cb2
 have f14 := f13.ext cb4
 have f15 := f14.ext c11
 refine sx_call rfl rfl Tryz.call95 (c_sIntOk f15 (by omega)) (fun v16 w16 p16 => ?_)
 obtain ⟨rfl, c16⟩ := p16
 have zw16 := c16.size
 refine sx_guardT rfl rfl rfl ?_
 refine sp rfl (px_notP rfl) ?_
 refine sp rfl (px_pick rfl rfl) ?_
 refine av rfl rfl (wl_nil (q_n (k7 _ _ ?_)))
 have h89x1 : ¬ (¬ (IOk (ng y) (dg y.natAbs))) := by first | exact fun h => h (IOk_ng (by omega)) | exact fun h => h (IOk_ng (by assumption))
 refine sx_condPF rfl h89x1 ?_
 refine sx_seq fun K17 k17 => sx_region ?_
 refine sp rfl (px_field rfl xfld28x0) ?_
 have f19 := (f8.ext c11).ext c16
 refine sp rfl (px_load rfl (f19.load1 rfl Tryz.isAgg4)) ?_
 refine mv rfl rfl ?_
 refine sx_tmpB (t := 17) rfl (fun h91 => ?_) (fun h91 => ?_)
 ·
  refine sx_guardT rfl rfl rfl ?_
  refine sp rfl (px_field rfl xfld28x0) ?_
  refine sx_guardT rfl rfl rfl ?_
  have f20 := f12.ext c16
  refine sp rfl (px_load rfl (f20.load1 rfl Tryz.isAgg4)) ?_
  refine sx_guardT rfl rfl rfl ?_
  refine sp rfl (px_not rfl) ?_
  refine sp rfl (px_pick rfl rfl) ?_
  refine av rfl rfl (wl_nil (q_n (k17 _ _ ?_)))
  refine sx_sub (Sub.c 2 rfl (.c 3 rfl (.c 4 rfl (.c 14 rfl .nil)))) ?_
  refine sx_condB rfl (fun h91x1 => ?_) (fun h91x1 => ?_)
  ·
   refine sx_seq fun K21 k21 => sx_region ?_
   refine av rfl rfl (wl_nil (q_n (k21 _ _ ?_)))
   refine sx_retc ?_
   refine q_br (q_r (sx_ret1 Tryz.results150 rfl ?_))
   exact ⟨iEq (cmpI_lt (by simp_all [ng] <;> omega)), (((cb2.t cb4).t c11).t c16)⟩
  refine sx_seq fun K22 k22 => sx_region ?_
  refine sp rfl (px_field rfl xfld28x0) ?_
  refine sp rfl (px_load rfl (f19.load1 rfl Tryz.isAgg4)) ?_
  refine sp rfl (px_not rfl) ?_
  refine mv rfl rfl ?_
  refine sx_tmpB (t := 26) rfl (fun h93 => ?_) (fun h93 => ?_)
  ·
   refine sx_guardT rfl rfl rfl ?_
   refine sp rfl (px_field rfl xfld28x0) ?_
   refine sx_guardT rfl rfl rfl ?_
   refine sp rfl (px_load rfl (f20.load1 rfl Tryz.isAgg4)) ?_
   refine sp rfl (px_pick rfl rfl) ?_
   refine av rfl rfl (wl_nil (q_n (k22 _ _ ?_)))
   refine sx_condB rfl (fun h93x1 => ?_) (fun h93x1 => ?_)
   ·
    refine sx_seq fun K23 k23 => sx_region ?_
    refine av rfl rfl (wl_nil (q_n (k23 _ _ ?_)))
    refine sx_retc ?_
    refine q_br (q_r (sx_ret1 Tryz.results150 rfl ?_))
    exact ⟨iEq (cmpI_gt (by simp_all [ng] <;> omega)), (((cb2.t cb4).t c11).t c16)⟩
   refine sx_seq fun K24 k24 => sx_region ?_
   refine sp rfl (px_field rfl xfld28x0) ?_
   refine sp rfl (px_load rfl (f19.load1 rfl Tryz.isAgg4)) ?_
   refine av rfl rfl (wl_nil (q_n (k24 _ _ ?_)))
   refine sx_sub (Sub.c 2 rfl (.c 3 rfl (.c 4 rfl (.c 30 rfl .nil)))) ?_
   refine sx_condB rfl (fun h95 => ?_) (fun h95 => ?_)
   ·
    refine sx_seq fun K25 k25 => sx_region ?_
    refine sp rfl (px_field rfl xfld28x1) ?_
    refine sp rfl (px_load rfl (f20.load1 rfl Tryz.isAgg26)) ?_
    refine sp rfl (px_field rfl xfld28x1) ?_
    refine sp rfl (px_load rfl (f19.load1 rfl Tryz.isAgg26)) ?_
    have f26 := f15.ext c16
    have f28 := (f10.ext c11).ext c16
    refine sx_call rfl rfl Tryz.call111 (c_l02Cmp f26 f28 (by omega)) (fun v29 w29 p29 => ?_)
    obtain ⟨rfl, c29⟩ := p29
    have zw29 := c29.size
    refine av rfl rfl (wl_nil (q_n (k25 _ _ ?_)))
    refine sx_retc ?_
    refine q_br (q_r (sx_ret1 Tryz.results150 rfl ?_))
    exact ⟨iEq (cmpI_mm (by simp_all [ng] <;> omega) (by simp_all [ng] <;> omega)), ((((cb2.t cb4).t c11).t c16).t c29)⟩
   refine sx_skip ?_
   refine q_bn (q_n (k6 _ _ ?_))
   refine sx_seq fun K30 k30 => sx_region ?_
   refine sp rfl (px_field rfl xfld28x1) ?_
   refine sp rfl (px_load rfl (f19.load1 rfl Tryz.isAgg26)) ?_
   refine sp rfl (px_field rfl xfld28x1) ?_
   refine sp rfl (px_load rfl (f20.load1 rfl Tryz.isAgg26)) ?_
   have f32 := (f10.ext c11).ext c16
   have f33 := f15.ext c16
   refine sx_call rfl rfl Tryz.call111 (c_l02Cmp f32 f33 (by omega)) (fun v34 w34 p34 => ?_)
   obtain ⟨rfl, c34⟩ := p34
   have zw34 := c34.size
   refine av rfl rfl (wl_nil (q_n (k30 _ _ ?_)))
   refine sx_retc ?_
   refine sx_ret1 Tryz.results150 rfl ?_
   exact ⟨iEq (cmpI_nn (by simp_all [ng] <;> omega) (by simp_all [ng] <;> omega)), ((((cb2.t cb4).t c11).t c16).t c34)⟩
  refine sx_guardF rfl rfl rfl rfl rfl rfl ?_
  refine sx_guardF rfl rfl rfl rfl rfl rfl ?_
  refine sp rfl (px_pick rfl rfl) ?_
  refine av rfl rfl (wl_nil (q_n (k22 _ _ ?_)))
  refine sx_condF rfl ?_
  refine sx_seq fun K35 k35 => sx_region ?_
  refine sp rfl (px_field rfl xfld28x0) ?_
  refine sp rfl (px_load rfl (f19.load1 rfl Tryz.isAgg4)) ?_
  refine av rfl rfl (wl_nil (q_n (k35 _ _ ?_)))
  refine sx_sub (Sub.c 2 rfl (.c 3 rfl (.c 4 rfl (.c 30 rfl .nil)))) ?_
  refine sx_condB rfl (fun h95 => ?_) (fun h95 => ?_)
  ·
   refine sx_seq fun K36 k36 => sx_region ?_
   refine sp rfl (px_field rfl xfld28x1) ?_
   refine sp rfl (px_load rfl (f20.load1 rfl Tryz.isAgg26)) ?_
   refine sp rfl (px_field rfl xfld28x1) ?_
   refine sp rfl (px_load rfl (f19.load1 rfl Tryz.isAgg26)) ?_
   have f37 := f15.ext c16
   have f39 := (f10.ext c11).ext c16
   refine sx_call rfl rfl Tryz.call111 (c_l02Cmp f37 f39 (by omega)) (fun v40 w40 p40 => ?_)
   obtain ⟨rfl, c40⟩ := p40
   have zw40 := c40.size
   refine av rfl rfl (wl_nil (q_n (k36 _ _ ?_)))
   refine sx_retc ?_
   refine q_br (q_r (sx_ret1 Tryz.results150 rfl ?_))
   exact ⟨iEq (cmpI_mm (by simp_all [ng] <;> omega) (by simp_all [ng] <;> omega)), ((((cb2.t cb4).t c11).t c16).t c40)⟩
  refine sx_skip ?_
  refine q_bn (q_n (k6 _ _ ?_))
  refine sx_seq fun K41 k41 => sx_region ?_
  refine sp rfl (px_field rfl xfld28x1) ?_
  refine sp rfl (px_load rfl (f19.load1 rfl Tryz.isAgg26)) ?_
  refine sp rfl (px_field rfl xfld28x1) ?_
  refine sp rfl (px_load rfl (f20.load1 rfl Tryz.isAgg26)) ?_
  have f43 := (f10.ext c11).ext c16
  have f44 := f15.ext c16
  refine sx_call rfl rfl Tryz.call111 (c_l02Cmp f43 f44 (by omega)) (fun v45 w45 p45 => ?_)
  obtain ⟨rfl, c45⟩ := p45
  have zw45 := c45.size
  refine av rfl rfl (wl_nil (q_n (k41 _ _ ?_)))
  refine sx_retc ?_
  refine sx_ret1 Tryz.results150 rfl ?_
  exact ⟨iEq (cmpI_nn (by simp_all [ng] <;> omega) (by simp_all [ng] <;> omega)), ((((cb2.t cb4).t c11).t c16).t c45)⟩
 refine sx_guardF rfl rfl rfl rfl rfl rfl ?_
 refine sx_guardF rfl rfl rfl rfl rfl rfl ?_
 refine sx_guardF rfl rfl rfl rfl rfl rfl ?_
 refine sp rfl (px_pick rfl rfl) ?_
 refine av rfl rfl (wl_nil (q_n (k17 _ _ ?_)))
 refine sx_sub (Sub.c 2 rfl (.c 3 rfl (.c 4 rfl (.c 14 rfl .nil)))) ?_
 refine sx_condF rfl ?_
 refine sx_seq fun K46 k46 => sx_region ?_
 refine sp rfl (px_field rfl xfld28x0) ?_
 refine sp rfl (px_load rfl (f19.load1 rfl Tryz.isAgg4)) ?_
 refine sp rfl (px_not rfl) ?_
 refine mv rfl rfl ?_
 refine sx_tmpB (t := 26) rfl (fun h93 => ?_) (fun h93 => ?_)
 ·
  refine sx_guardT rfl rfl rfl ?_
  refine sp rfl (px_field rfl xfld28x0) ?_
  refine sx_guardT rfl rfl rfl ?_
  have f47 := f12.ext c16
  refine sp rfl (px_load rfl (f47.load1 rfl Tryz.isAgg4)) ?_
  refine sp rfl (px_pick rfl rfl) ?_
  refine av rfl rfl (wl_nil (q_n (k46 _ _ ?_)))
  refine sx_condB rfl (fun h93x1 => ?_) (fun h93x1 => ?_)
  ·
   refine sx_seq fun K48 k48 => sx_region ?_
   refine av rfl rfl (wl_nil (q_n (k48 _ _ ?_)))
   refine sx_retc ?_
   refine q_br (q_r (sx_ret1 Tryz.results150 rfl ?_))
   exact ⟨iEq (cmpI_gt (by simp_all [ng] <;> omega)), (((cb2.t cb4).t c11).t c16)⟩
  refine sx_seq fun K49 k49 => sx_region ?_
  refine sp rfl (px_field rfl xfld28x0) ?_
  refine sp rfl (px_load rfl (f19.load1 rfl Tryz.isAgg4)) ?_
  refine av rfl rfl (wl_nil (q_n (k49 _ _ ?_)))
  refine sx_sub (Sub.c 2 rfl (.c 3 rfl (.c 4 rfl (.c 30 rfl .nil)))) ?_
  refine sx_condB rfl (fun h95 => ?_) (fun h95 => ?_)
  ·
   refine sx_seq fun K50 k50 => sx_region ?_
   refine sp rfl (px_field rfl xfld28x1) ?_
   refine sp rfl (px_load rfl (f47.load1 rfl Tryz.isAgg26)) ?_
   refine sp rfl (px_field rfl xfld28x1) ?_
   refine sp rfl (px_load rfl (f19.load1 rfl Tryz.isAgg26)) ?_
   have f51 := f15.ext c16
   have f53 := (f10.ext c11).ext c16
   refine sx_call rfl rfl Tryz.call111 (c_l02Cmp f51 f53 (by omega)) (fun v54 w54 p54 => ?_)
   obtain ⟨rfl, c54⟩ := p54
   have zw54 := c54.size
   refine av rfl rfl (wl_nil (q_n (k50 _ _ ?_)))
   refine sx_retc ?_
   refine q_br (q_r (sx_ret1 Tryz.results150 rfl ?_))
   exact ⟨iEq (cmpI_mm (by simp_all [ng] <;> omega) (by simp_all [ng] <;> omega)), ((((cb2.t cb4).t c11).t c16).t c54)⟩
  refine sx_skip ?_
  refine q_bn (q_n (k6 _ _ ?_))
  refine sx_seq fun K55 k55 => sx_region ?_
  refine sp rfl (px_field rfl xfld28x1) ?_
  refine sp rfl (px_load rfl (f19.load1 rfl Tryz.isAgg26)) ?_
  refine sp rfl (px_field rfl xfld28x1) ?_
  refine sp rfl (px_load rfl (f47.load1 rfl Tryz.isAgg26)) ?_
  have f57 := (f10.ext c11).ext c16
  have f58 := f15.ext c16
  refine sx_call rfl rfl Tryz.call111 (c_l02Cmp f57 f58 (by omega)) (fun v59 w59 p59 => ?_)
  obtain ⟨rfl, c59⟩ := p59
  have zw59 := c59.size
  refine av rfl rfl (wl_nil (q_n (k55 _ _ ?_)))
  refine sx_retc ?_
  refine sx_ret1 Tryz.results150 rfl ?_
  exact ⟨iEq (cmpI_nn (by simp_all [ng] <;> omega) (by simp_all [ng] <;> omega)), ((((cb2.t cb4).t c11).t c16).t c59)⟩
 refine sx_guardF rfl rfl rfl rfl rfl rfl ?_
 refine sx_guardF rfl rfl rfl rfl rfl rfl ?_
 refine sp rfl (px_pick rfl rfl) ?_
 refine av rfl rfl (wl_nil (q_n (k46 _ _ ?_)))
 refine sx_condF rfl ?_
 refine sx_seq fun K60 k60 => sx_region ?_
 refine sp rfl (px_field rfl xfld28x0) ?_
 refine sp rfl (px_load rfl (f19.load1 rfl Tryz.isAgg4)) ?_
 refine av rfl rfl (wl_nil (q_n (k60 _ _ ?_)))
 refine sx_sub (Sub.c 2 rfl (.c 3 rfl (.c 4 rfl (.c 30 rfl .nil)))) ?_
 refine sx_condB rfl (fun h95 => ?_) (fun h95 => ?_)
 ·
  refine sx_seq fun K61 k61 => sx_region ?_
  refine sp rfl (px_field rfl xfld28x1) ?_
  have f62 := f12.ext c16
  refine sp rfl (px_load rfl (f62.load1 rfl Tryz.isAgg26)) ?_
  refine sp rfl (px_field rfl xfld28x1) ?_
  refine sp rfl (px_load rfl (f19.load1 rfl Tryz.isAgg26)) ?_
  have f63 := f15.ext c16
  have f65 := (f10.ext c11).ext c16
  refine sx_call rfl rfl Tryz.call111 (c_l02Cmp f63 f65 (by omega)) (fun v66 w66 p66 => ?_)
  obtain ⟨rfl, c66⟩ := p66
  have zw66 := c66.size
  refine av rfl rfl (wl_nil (q_n (k61 _ _ ?_)))
  refine sx_retc ?_
  refine q_br (q_r (sx_ret1 Tryz.results150 rfl ?_))
  exact ⟨iEq (cmpI_mm (by simp_all [ng] <;> omega) (by simp_all [ng] <;> omega)), ((((cb2.t cb4).t c11).t c16).t c66)⟩
 refine sx_skip ?_
 refine q_bn (q_n (k6 _ _ ?_))
 refine sx_seq fun K67 k67 => sx_region ?_
 refine sp rfl (px_field rfl xfld28x1) ?_
 refine sp rfl (px_load rfl (f19.load1 rfl Tryz.isAgg26)) ?_
 refine sp rfl (px_field rfl xfld28x1) ?_
 have f68 := f12.ext c16
 refine sp rfl (px_load rfl (f68.load1 rfl Tryz.isAgg26)) ?_
 have f70 := (f10.ext c11).ext c16
 have f71 := f15.ext c16
 refine sx_call rfl rfl Tryz.call111 (c_l02Cmp f70 f71 (by omega)) (fun v72 w72 p72 => ?_)
 obtain ⟨rfl, c72⟩ := p72
 have zw72 := c72.size
 refine av rfl rfl (wl_nil (q_n (k67 _ _ ?_)))
 refine sx_retc ?_
 refine sx_ret1 Tryz.results150 rfl ?_
 exact ⟨iEq (cmpI_nn (by simp_all [ng] <;> omega) (by simp_all [ng] <;> omega)), ((((cb2.t cb4).t c11).t c16).t c72)⟩

theorem c_IntCmpZ {w : World} {va : Value} {lva uva : Nat} {x : Int} {b : Bool} {vb : Value} {lvb uvb : Nat} {ys : List Int} (hva : Sl w lva uva va (dg x.natAbs)) (hvb : Sl w lvb uvb vb (ys)) (hbx : (dg x.natAbs).length ≤ 50) (hb : b = false) (hy : ys = []) :
  Ret Tryz.prog 150 [.agg #[.bool (ng x), va], .agg #[.bool b, vb]] w fun v w' => v = .int .i64 (cmpI x 0) ∧ Chg 0 0 w w' := by
 have h := c_IntCmp (y := 0) (vb := vb) hva (by rw [Int.natAbs_zero, dg_zero]; rw [hy] at hvb; exact hvb) hbx (by rw [Int.natAbs_zero, dg_zero]; simp)
 rw [hb, show false = ng 0 by simp [ng]]; exact h

theorem c_sIntSign {w : World} {va : Value} {lva uva : Nat} {x : Int} (hva : Sl w lva uva va (dg x.natAbs)) (hbx : (dg x.natAbs).length ≤ 50) :
  Ret Tryz.prog 137 [.agg #[.bool (ng x), va]] w fun v w' => v = .int .i64 (cmpI x 0) ∧ Chg 0 0 w w' := by
 have hva0 := hva.fit
 refine sx_enter Tryz.func137 rfl Tryz.ntmps137 (nbl rfl) ?_
 refine sx_seq fun K1 k1 => sx_region ?_
 refine sx_box [.bool (ng x), va] rfl rfl rfl (fun b2 w3 eb2 sb2 fb2 cb2 => ?_)
 have zw3 := cb2.size
 refine av rfl rfl (wl_nil (q_n (k1 _ _ ?_)))
 refine sx_seq fun K4 k4 => sx_region ?_
 refine sp rfl (px_load rfl (fb2.loadA (vs := [.bool (ng x), va]) (look_lit rfl) Tryz.isAgg28 Tryz.sizeOf28)) ?_
 refine sp rfl (px_build rfl (xbld28x  _)) ?_
 have f5 := hva0.ext cb2
 refine sx_call rfl rfl Tryz.call150 (c_IntCmpZ f5 (Sv.nil _ 0 0 1) (by omega) (rfl) (rfl)) (fun v6 w6 p6 => ?_)
 obtain ⟨rfl, c6⟩ := p6
 have zw6 := c6.size
 refine av rfl rfl (wl_nil (q_n (k4 _ _ ?_)))
 refine sx_retc ?_
 refine sx_ret1 Tryz.results137 rfl ?_
 exact ⟨rfl, (cb2.t c6)⟩

theorem c_sRateOk {w : World} {f1 : ByteArray} {t1 : ByteArray} {n1 : Bool} {v1 : Value} {lv1 uv1 : Nat} {z1 : List Int} {p1 : Int} (hv1 : Sl w lv1 uv1 v1 (z1)) (h63 : z1.length ≤ 4611686018427387904) :
  Ret Tryz.prog 106 [.agg #[.string f1, .string t1, .bool n1, v1, .int .i64 p1]] w fun v w' => v = .bool (decide (RateP f1 t1 n1 z1 p1)) ∧ Chg 0 0 w w' := by
 have hv10 := hv1.fit
 refine sx_enter Tryz.func106 rfl Tryz.ntmps106 (nbl rfl) ?_
 refine sx_seq fun K1 k1 => sx_region ?_
 refine sx_box [.string f1, .string t1, .bool n1, v1, .int .i64 p1] rfl rfl rfl (fun b2 w3 eb2 sb2 fb2 cb2 => ?_)
 have zw3 := cb2.size
 refine av rfl rfl (wl_nil (q_n (k1 _ _ ?_)))
 refine sx_seq fun K4 k4 => sx_region ?_
 refine sp rfl (px_field rfl xfld99x0) ?_
 refine sp rfl (px_load rfl (fb2.load1 rfl Tryz.isAgg9)) ?_
 refine sx_call rfl rfl Tryz.call67 (c_sCurKnown) (fun v5 w5 p5 => ?_)
 obtain ⟨rfl, c5⟩ := p5
 have zw5 := c5.size
 refine mv rfl rfl ?_
 refine sx_tmpP (t := 6) rfl (fun h7 => ?_) (fun h7 => ?_)
 ·
  refine sx_guardT rfl rfl rfl ?_
  refine sp rfl (px_field rfl xfld99x1) ?_
  refine sx_guardT rfl rfl rfl ?_
  have f6 := fb2.ext c5
  refine sp rfl (px_load rfl (f6.load1 rfl Tryz.isAgg9)) ?_
  refine sx_guardT rfl rfl rfl ?_
  refine sx_call rfl rfl Tryz.call67 (c_sCurKnown) (fun v7 w7 p7 => ?_)
  obtain ⟨rfl, c7⟩ := p7
  have zw7 := c7.size
  refine sp rfl (px_pick rfl rfl) ?_
  refine mv rfl rfl ?_
  refine sx_tmpP (t := 11) rfl (fun h7x1 => ?_) (fun h7x1 => ?_)
  ·
   refine sx_guardT rfl rfl rfl ?_
   refine sp rfl (px_field rfl xfld99x0) ?_
   refine sx_guardT rfl rfl rfl ?_
   have f8 := f6.ext c7
   refine sp rfl (px_load rfl (f8.load1 rfl Tryz.isAgg9)) ?_
   refine sx_guardT rfl rfl rfl ?_
   refine sp rfl (px_field rfl xfld99x1) ?_
   refine sx_guardT rfl rfl rfl ?_
   refine sp rfl (px_load rfl (f8.load1 rfl Tryz.isAgg9)) ?_
   refine sx_guardT rfl rfl rfl ?_
   refine sp rfl (px_neS rfl rfl) ?_
   refine sp rfl (px_pick rfl rfl) ?_
   refine mv rfl rfl ?_
   refine sx_tmpP (t := 18) rfl (fun h7x2 => ?_) (fun h7x2 => ?_)
   ·
    refine sx_guardT rfl rfl rfl ?_
    refine sp rfl (px_field rfl xfld99x2) ?_
    refine sx_guardT rfl rfl rfl ?_
    refine sp rfl (px_load rfl (f8.loadA (vs := [.bool n1, v1, .int .i64 p1]) (look_lit rfl) Tryz.isAgg63 Tryz.sizeOf63)) ?_
    refine sx_guardT rfl rfl rfl ?_
    have f9 := hv10.ext cb2
    have f11 := (f9.ext c5).ext c7
    refine sx_call rfl rfl Tryz.call109 (c_sDecOk f11 (by omega)) (fun v12 w12 p12 => ?_)
    obtain ⟨rfl, c12⟩ := p12
    have zw12 := c12.size
    refine sp rfl (px_pick rfl rfl) ?_
    refine mv rfl rfl ?_
    refine sx_tmpP (t := 23) rfl (fun h7x3 => ?_) (fun h7x3 => ?_)
    ·
     have hD := h7x3
     obtain ⟨x1, rfl, rfl, hx1⟩ := hD.int
     have hvx := vI_ng x1
     have hsx := sign_gt (x := x1)
     have hcx := cmpI_gt0 (x := x1)
     refine sx_guardT rfl rfl rfl ?_
     refine sp rfl (px_field rfl xfld99x2) ?_
     refine sx_guardT rfl rfl rfl ?_
     refine sp rfl (px_field rfl xfld63x0) ?_
     refine sx_guardT rfl rfl rfl ?_
     have f13 := f8.ext c12
     refine sp rfl (px_load rfl (f13.loadA (vs := [.bool (ng x1), v1]) (look_lit rfl) Tryz.isAgg28 Tryz.sizeOf28)) ?_
     refine sx_guardT rfl rfl rfl ?_
     have f14 := f11.ext c12
     refine sx_call rfl rfl Tryz.call137 (c_sIntSign f14 (by omega)) (fun v15 w15 p15 => ?_)
     obtain ⟨rfl, c15⟩ := p15
     have zw15 := c15.size
     refine sx_guardT rfl rfl rfl ?_
     refine sp rfl (px_gt rfl rfl) ?_
     refine sp rfl (px_pick rfl rfl) ?_
     refine mv rfl rfl ?_
     refine sx_tmpP (t := 30) rfl (fun h7x4 => ?_) (fun h7x4 => ?_)
     ·
      refine sx_guardT rfl rfl rfl ?_
      refine sp rfl (px_field rfl xfld99x2) ?_
      refine sx_guardT rfl rfl rfl ?_
      refine sp rfl (px_field rfl xfld63x0) ?_
      refine sx_guardT rfl rfl rfl ?_
      refine sp rfl (px_field rfl xfld28x1) ?_
      refine sx_guardT rfl rfl rfl ?_
      have f16 := f13.ext c15
      refine sp rfl (px_load rfl (f16.load1 rfl Tryz.isAgg26)) ?_
      refine sx_guardT rfl rfl rfl ?_
      have f17 := f14.ext c15
      refine sp rfl (px_len rfl Tryz.underlying26 f17) ?_
      refine sx_guardT rfl rfl rfl ?_
      refine sp rfl (px_le rfl rfl) ?_
      refine sp rfl (px_pick rfl rfl) ?_
      refine av rfl rfl (wl_nil (q_n (k4 _ _ ?_)))
      refine sx_sub (Sub.c 2 rfl .nil) ?_
      refine sx_retc ?_
      refine sx_ret1 Tryz.results106 rfl ?_
      exact ⟨(by first | exact bTrue (by grind [RateP]) | exact bFalse (by grind [RateP]) | exact bIff (by grind [RateP])), ((((cb2.t c5).t c7).t c12).t c15)⟩
     refine sx_guardF rfl rfl rfl rfl rfl rfl ?_
     refine sx_guardF rfl rfl rfl rfl rfl rfl ?_
     refine sx_guardF rfl rfl rfl rfl rfl rfl ?_
     refine sx_guardF rfl rfl rfl rfl rfl rfl ?_
     refine sx_guardF rfl rfl rfl rfl rfl rfl ?_
     refine sx_guardF rfl rfl rfl rfl rfl rfl ?_
     refine sp rfl (px_pick rfl rfl) ?_
     refine av rfl rfl (wl_nil (q_n (k4 _ _ ?_)))
     refine sx_sub (Sub.c 2 rfl .nil) ?_
     refine sx_retc ?_
     refine sx_ret1 Tryz.results106 rfl ?_
     exact ⟨(by first | exact bTrue (by grind [RateP]) | exact bFalse (by grind [RateP]) | exact bIff (by grind [RateP])), ((((cb2.t c5).t c7).t c12).t c15)⟩
    refine sx_guardF rfl rfl rfl rfl rfl rfl ?_
    refine sx_guardF rfl rfl rfl rfl rfl rfl ?_
    refine sx_guardF rfl rfl rfl rfl rfl rfl ?_
    refine sx_guardF rfl rfl rfl rfl rfl rfl ?_
    refine sx_guardF rfl rfl rfl rfl rfl rfl ?_
    refine sp rfl (px_pick rfl rfl) ?_
    refine mv rfl rfl ?_
    refine sx_guardF rfl rfl rfl rfl rfl rfl ?_
    refine sx_guardF rfl rfl rfl rfl rfl rfl ?_
    refine sx_guardF rfl rfl rfl rfl rfl rfl ?_
    refine sx_guardF rfl rfl rfl rfl rfl rfl ?_
    refine sx_guardF rfl rfl rfl rfl rfl rfl ?_
    refine sx_guardF rfl rfl rfl rfl rfl rfl ?_
    refine sp rfl (px_pick rfl rfl) ?_
    refine av rfl rfl (wl_nil (q_n (k4 _ _ ?_)))
    refine sx_sub (Sub.c 2 rfl .nil) ?_
    refine sx_retc ?_
    refine sx_ret1 Tryz.results106 rfl ?_
    exact ⟨(by first | exact bTrue (by grind [RateP]) | exact bFalse (by grind [RateP]) | exact bIff (by grind [RateP])), (((cb2.t c5).t c7).t c12)⟩
   refine sx_guardF rfl rfl rfl rfl rfl rfl ?_
   refine sx_guardF rfl rfl rfl rfl rfl rfl ?_
   refine sx_guardF rfl rfl rfl rfl rfl rfl ?_
   refine sp rfl (px_pick rfl rfl) ?_
   refine mv rfl rfl ?_
   refine sx_guardF rfl rfl rfl rfl rfl rfl ?_
   refine sx_guardF rfl rfl rfl rfl rfl rfl ?_
   refine sx_guardF rfl rfl rfl rfl rfl rfl ?_
   refine sx_guardF rfl rfl rfl rfl rfl rfl ?_
   refine sx_guardF rfl rfl rfl rfl rfl rfl ?_
   refine sp rfl (px_pick rfl rfl) ?_
   refine mv rfl rfl ?_
   refine sx_guardF rfl rfl rfl rfl rfl rfl ?_
   refine sx_guardF rfl rfl rfl rfl rfl rfl ?_
   refine sx_guardF rfl rfl rfl rfl rfl rfl ?_
   refine sx_guardF rfl rfl rfl rfl rfl rfl ?_
   refine sx_guardF rfl rfl rfl rfl rfl rfl ?_
   refine sx_guardF rfl rfl rfl rfl rfl rfl ?_
   refine sp rfl (px_pick rfl rfl) ?_
   refine av rfl rfl (wl_nil (q_n (k4 _ _ ?_)))
   refine sx_sub (Sub.c 2 rfl .nil) ?_
   refine sx_retc ?_
   refine sx_ret1 Tryz.results106 rfl ?_
   exact ⟨(by first | exact bTrue (by grind [RateP]) | exact bFalse (by grind [RateP]) | exact bIff (by grind [RateP])), ((cb2.t c5).t c7)⟩
  refine sx_guardF rfl rfl rfl rfl rfl rfl ?_
  refine sx_guardF rfl rfl rfl rfl rfl rfl ?_
  refine sx_guardF rfl rfl rfl rfl rfl rfl ?_
  refine sx_guardF rfl rfl rfl rfl rfl rfl ?_
  refine sx_guardF rfl rfl rfl rfl rfl rfl ?_
  refine sp rfl (px_pick rfl rfl) ?_
  refine mv rfl rfl ?_
  refine sx_guardF rfl rfl rfl rfl rfl rfl ?_
  refine sx_guardF rfl rfl rfl rfl rfl rfl ?_
  refine sx_guardF rfl rfl rfl rfl rfl rfl ?_
  refine sp rfl (px_pick rfl rfl) ?_
  refine mv rfl rfl ?_
  refine sx_guardF rfl rfl rfl rfl rfl rfl ?_
  refine sx_guardF rfl rfl rfl rfl rfl rfl ?_
  refine sx_guardF rfl rfl rfl rfl rfl rfl ?_
  refine sx_guardF rfl rfl rfl rfl rfl rfl ?_
  refine sx_guardF rfl rfl rfl rfl rfl rfl ?_
  refine sp rfl (px_pick rfl rfl) ?_
  refine mv rfl rfl ?_
  refine sx_guardF rfl rfl rfl rfl rfl rfl ?_
  refine sx_guardF rfl rfl rfl rfl rfl rfl ?_
  refine sx_guardF rfl rfl rfl rfl rfl rfl ?_
  refine sx_guardF rfl rfl rfl rfl rfl rfl ?_
  refine sx_guardF rfl rfl rfl rfl rfl rfl ?_
  refine sx_guardF rfl rfl rfl rfl rfl rfl ?_
  refine sp rfl (px_pick rfl rfl) ?_
  refine av rfl rfl (wl_nil (q_n (k4 _ _ ?_)))
  refine sx_sub (Sub.c 2 rfl .nil) ?_
  refine sx_retc ?_
  refine sx_ret1 Tryz.results106 rfl ?_
  exact ⟨(by first | exact bTrue (by grind [RateP]) | exact bFalse (by grind [RateP]) | exact bIff (by grind [RateP])), ((cb2.t c5).t c7)⟩
 refine sx_guardF rfl rfl rfl rfl rfl rfl ?_
 refine sx_guardF rfl rfl rfl rfl rfl rfl ?_
 refine sx_guardF rfl rfl rfl rfl rfl rfl ?_
 refine sp rfl (px_pick rfl rfl) ?_
 refine mv rfl rfl ?_
 refine sx_guardF rfl rfl rfl rfl rfl rfl ?_
 refine sx_guardF rfl rfl rfl rfl rfl rfl ?_
 refine sx_guardF rfl rfl rfl rfl rfl rfl ?_
 refine sx_guardF rfl rfl rfl rfl rfl rfl ?_
 refine sx_guardF rfl rfl rfl rfl rfl rfl ?_
 refine sp rfl (px_pick rfl rfl) ?_
 refine mv rfl rfl ?_
 refine sx_guardF rfl rfl rfl rfl rfl rfl ?_
 refine sx_guardF rfl rfl rfl rfl rfl rfl ?_
 refine sx_guardF rfl rfl rfl rfl rfl rfl ?_
 refine sp rfl (px_pick rfl rfl) ?_
 refine mv rfl rfl ?_
 refine sx_guardF rfl rfl rfl rfl rfl rfl ?_
 refine sx_guardF rfl rfl rfl rfl rfl rfl ?_
 refine sx_guardF rfl rfl rfl rfl rfl rfl ?_
 refine sx_guardF rfl rfl rfl rfl rfl rfl ?_
 refine sx_guardF rfl rfl rfl rfl rfl rfl ?_
 refine sp rfl (px_pick rfl rfl) ?_
 refine mv rfl rfl ?_
 refine sx_guardF rfl rfl rfl rfl rfl rfl ?_
 refine sx_guardF rfl rfl rfl rfl rfl rfl ?_
 refine sx_guardF rfl rfl rfl rfl rfl rfl ?_
 refine sx_guardF rfl rfl rfl rfl rfl rfl ?_
 refine sx_guardF rfl rfl rfl rfl rfl rfl ?_
 refine sx_guardF rfl rfl rfl rfl rfl rfl ?_
 refine sp rfl (px_pick rfl rfl) ?_
 refine av rfl rfl (wl_nil (q_n (k4 _ _ ?_)))
 refine sx_sub (Sub.c 2 rfl .nil) ?_
 refine sx_retc ?_
 refine sx_ret1 Tryz.results106 rfl ?_
 exact ⟨(by first | exact bTrue (by grind [RateP]) | exact bFalse (by grind [RateP]) | exact bIff (by grind [RateP])), (cb2.t c5)⟩

theorem c_l10At {w : World} {vt : Value} {lvt uvt : Nat} {ts : List Rt} {vvt : List Value} {a : ByteArray} {b : ByteArray} (hvt : RtS w lvt uvt vt ts vvt) (h63 : ts.length ≤ 4611686018427387904) :
  Ret Tryz.prog 72 [vt, .string a, .string b] w fun v w' => v = .int .i64 (atI ts a b) ∧ Chg 0 0 w w' := by
 have hvt0 := hvt.fit
 refine sx_enter Tryz.func72 rfl Tryz.ntmps72 (nbl rfl) ?_
 refine sx_seq fun K1 k1 => sx_region ?_
 refine av rfl rfl (wl_nil (q_n (k1 _ _ ?_)))
 refine sx_seq fun K2 k2 => ?_
 refine sx_seq fun K3 k3 => sx_region ?_
 refine mv rfl rfl (sp rfl (px_len rfl Tryz.underlying33 hvt0.sv) ?_)
 refine mv rfl rfl (wl_nil (q_n (k3 _ _ ?_)))
 refine sx_block ?_
 refine sx_loop (fun mm aa w' => ∃ (k : Nat), Agr 28 [(1, .string a), (2, .string b), (9, vt), (10, .int .i64 (↑(ts).length)), (11, .int .i64 ↑k)] aa ∧ Chg 0 0 w w' ∧ (mm = ts.length - k) ∧ (k ≤ ts.length) ∧ (∀ i, i < k → ¬ ((ts.getD i rt0).1 = a ∧ (ts.getD i rt0).2.1 = b))) (_) (fun a ha => ⟨0, ha.sub (Sub.c 1 rfl (.c 2 rfl (.c 9 rfl (.c 10 (look_int (t := 10) rfl (by first | omega | simp)) (.c 11 (look_int (t := 11) rfl (by first | omega | simp)) .nil))))), Chg.refl _ _ _, rfl, by omega, fun i hi => by omega⟩) ?_
 rintro mm aa wl4 ⟨k, hAwl4, cwl4, hm, hk, hn⟩
 refine (show cw Tryz.prog 28 _ _ _ wl4 from ?_) aa hAwl4
 clear hAwl4
 have zwl4 := cwl4.size
 refine sx_seq fun K5 k5 => sx_region ?_
 refine sp rfl (px_lt rfl rfl) ?_
 refine wl_nil (q_n (k5 _ _ ?_))
 refine sx_seq fun K6 k6 => ?_
 refine sx_condP rfl (fun h11 => ?_) (fun h11 => ?_)
 ·
  refine sx_skip ?_
  refine q_n (k6 _ _ ?_)
  refine sx_seq fun K7 k7 => ?_
  refine sx_block ?_
  refine sx_seq fun K8 k8 => sx_region ?_
  refine mv rfl rfl ?_
  have f9 := hvt0.ext cwl4
  refine sp rfl (px_indexK (j := k) rfl rfl (by omega) Tryz.underlying33 Tryz.sizeOf99 f9.sv (by omega)) ?_
  refine sp rfl (px_load rfl (f9.sv.loadA (rt_look f9.len (by omega)) Tryz.isAgg99 Tryz.sizeOf99)) ?_
  refine sx_alloc [.string (⟨#[]⟩), .string (⟨#[]⟩), .bool false, (.slice none 0 0), .int .i64 0] rfl Tryz.zeroValue99 rfl (fun b10 w11 eb10 sb10 fb10 cb10 => ?_)
  have zw11 := cb10.size
  refine av rfl rfl ?_
  have f13 := (f9.nest k (by omega)).ext cb10
  refine sx_store (vs := [.string ((ts.getD k rt0).1), .string ((ts.getD k rt0).2.1), .bool ((ts.getD k rt0).2.2.1), (vvt.getD k vz), .int .i64 ((ts.getD k rt0).2.2.2.2)]) rfl rfl fb10 rfl Tryz.sizeOf99 (nbl rfl) (one_cons rfl (one_cons rfl (one_cons rfl (one_cons f13.one (o1 rfl))))) (fun w12 sw12 fw12 cw12 => ?_)
  have zw12 := cw12.size
  have gw12 : Blk w12 b10 [.string ((ts.getD k rt0).1), .string ((ts.getD k rt0).2.1), .bool ((ts.getD k rt0).2.2.1), (vvt.getD k vz), .int .i64 ((ts.getD k rt0).2.2.2.2)] 99 := fw12
  refine wl_nil (q_n (k8 _ _ ?_))
  refine sx_seq fun K14 k14 => sx_region ?_
  refine sp rfl (px_field rfl xfld99x0) ?_
  refine sp rfl (px_load rfl (gw12.load1 rfl Tryz.isAgg9)) ?_
  refine mv rfl rfl (sp rfl (px_eqS rfl rfl) ?_)
  refine mv rfl rfl ?_
  refine sx_tmpP (t := 20) rfl (fun h12 => ?_) (fun h12 => ?_)
  ·
   refine sx_guardT rfl rfl rfl ?_
   refine sp rfl (px_field rfl xfld99x1) ?_
   refine sx_guardT rfl rfl rfl ?_
   refine sp rfl (px_load rfl (gw12.load1 rfl Tryz.isAgg9)) ?_
   refine sx_guardT rfl rfl rfl ?_
   refine mv rfl rfl ?_
   refine sx_guardT rfl rfl rfl ?_
   refine sp rfl (px_eqS rfl rfl) ?_
   refine sp rfl (px_pick rfl rfl) ?_
   refine wl_nil (q_n (k14 _ _ ?_))
   refine sx_sub (Sub.c 1 rfl (.c 2 rfl (.c 7 rfl (.c 9 rfl (.c 10 rfl (.c 11 rfl (.c 25 rfl .nil))))))) ?_
   refine sx_condP rfl (fun h12x1 => ?_) (fun h12x1 => ?_)
   ·
    refine sx_seq fun K15 k15 => sx_region ?_
    refine mv rfl rfl (av rfl rfl (wl_nil (q_n (k15 _ _ ?_))))
    refine sx_retc ?_
    refine q_br (q_r (q_r (q_br (q_r (sx_ret1 Tryz.results72 rfl ?_)))))
    have q16 := Chg.step (l := 0) (h := 0) (Chg.zero (l := 0) (h := 0) (cwl4.t cb10)) cw12 (by omega)
    exact ⟨(by rw [atI_some (by omega) hn ⟨h12, h12x1⟩]), q16⟩
   refine sx_skip ?_
   refine q_bn (q_n (k7 _ _ ?_))
   refine sx_region ?_
   refine sp rfl (px_add rfl rfl (by omega)) ?_
   refine mv rfl rfl (wl_nil ?_)
   have q17 := Chg.step (l := 0) (h := 0) (Chg.zero (l := 0) (h := 0) (cwl4.t cb10)) cw12 (by omega)
   exact fun a ha => ⟨_, by omega, (k + 1), ha.sub (Sub.c 1 rfl (.c 2 rfl (.c 9 rfl (.c 10 rfl (.c 11 (look_int (t := 11) rfl (by first | omega | simp)) .nil))))), q17, rfl, by omega, upto_next hn (fun hh => by first | exact h12 hh.1 | exact h12x1 hh.2)⟩
  refine sx_guardF rfl rfl rfl rfl rfl rfl ?_
  refine sx_guardF rfl rfl rfl rfl rfl rfl ?_
  refine sx_guardF rfl rfl rfl rfl rfl rfl ?_
  refine sx_guardF rfl rfl rfl rfl rfl rfl ?_
  refine sp rfl (px_pick rfl rfl) ?_
  refine wl_nil (q_n (k14 _ _ ?_))
  refine sx_sub (Sub.c 1 rfl (.c 2 rfl (.c 7 rfl (.c 9 rfl (.c 10 rfl (.c 11 rfl (.c 25 rfl .nil))))))) ?_
  refine sx_condF rfl ?_
  refine sx_skip ?_
  refine q_bn (q_n (k7 _ _ ?_))
  refine sx_region ?_
  refine sp rfl (px_add rfl rfl (by omega)) ?_
  refine mv rfl rfl (wl_nil ?_)
  have q18 := Chg.step (l := 0) (h := 0) (Chg.zero (l := 0) (h := 0) (cwl4.t cb10)) cw12 (by omega)
  exact fun a ha => ⟨_, by omega, (k + 1), ha.sub (Sub.c 1 rfl (.c 2 rfl (.c 9 rfl (.c 10 rfl (.c 11 (look_int (t := 11) rfl (by first | omega | simp)) .nil))))), q18, rfl, by omega, upto_next hn (fun hh => by first | exact h12 hh.1 | exact h12x1 hh.2)⟩
 refine sx_exit ?_
 refine q_e (q_e (q_bx (q_n (k2 _ _ ?_))))
 refine sx_seq fun K19 k19 => sx_region ?_
 refine av rfl rfl (wl_nil (q_n (k19 _ _ ?_)))
 refine sx_retc ?_
 refine sx_ret1 Tryz.results72 rfl ?_
 exact ⟨(by rw [atI_none (fun i hi => hn i (by omega))]), cwl4⟩

theorem c_sRatesOk {w : World} {pv : ByteArray} {vt : Value} {lvt uvt : Nat} {ts : List Rt} {vvt : List Value} (hvt : RtS w lvt uvt vt ts vvt) (h63 : ts.length ≤ 4611686018427387904) (hz : ∀ i, i < ts.length → (ts.getD i rt0).2.2.2.1.length ≤ 4611686018427387904) :
  Ret Tryz.prog 66 [.agg #[.string pv, vt]] w fun v w' => v = .bool (decide (RsOk pv ts)) ∧ Chg 0 0 w w' := by
 have hvt0 := hvt.fit
 refine sx_enter Tryz.func66 rfl Tryz.ntmps66 (nbl rfl) ?_
 refine sx_seq fun K1 k1 => sx_region ?_
 refine sx_box [.string pv, vt] rfl rfl rfl (fun b2 w3 eb2 sb2 fb2 cb2 => ?_)
 have zw3 := cb2.size
 refine av rfl rfl (wl_nil (q_n (k1 _ _ ?_)))
 refine sx_seq fun K4 k4 => ?_
 refine sx_seq fun K5 k5 => sx_region ?_
 refine sp rfl (px_field rfl xfld35x0) ?_
 refine sp rfl (px_load rfl (fb2.load1 rfl Tryz.isAgg9)) ?_
 refine sx_call rfl rfl Tryz.call67 (c_sCurKnown) (fun v6 w6 p6 => ?_)
 obtain ⟨rfl, c6⟩ := p6
 have zw6 := c6.size
 refine sp rfl (px_notP rfl) ?_
 refine mv rfl rfl ?_
 refine sx_tmpP (t := 9) rfl (fun h21 => ?_) (fun h21 => ?_)
 ·
  refine sx_guardF rfl rfl rfl rfl rfl rfl ?_
  refine sx_guardF rfl rfl rfl rfl rfl rfl ?_
  refine sx_guardF rfl rfl rfl rfl rfl rfl ?_
  refine sx_guardF rfl rfl rfl rfl rfl rfl ?_
  refine sp rfl (px_pick rfl rfl) ?_
  refine wl_nil (q_n (k5 _ _ ?_))
  refine sx_condT rfl ?_
  refine sx_seq fun K7 k7 => sx_region ?_
  refine av rfl rfl (wl_nil (q_n (k7 _ _ ?_)))
  refine sx_retc ?_
  refine q_r (sx_ret1 Tryz.results66 rfl ?_)
  exact ⟨bFalse (fun h => by first | exact absurd h.1 (by assumption) | (have := h.2.1; omega)), (cb2.t c6)⟩
 refine sx_guardT rfl rfl rfl ?_
 refine sp rfl (px_field rfl xfld35x1) ?_
 refine sx_guardT rfl rfl rfl ?_
 have f8 := fb2.ext c6
 refine sp rfl (px_load rfl (f8.load1 rfl Tryz.isAgg33)) ?_
 refine sx_guardT rfl rfl rfl ?_
 have f9 := hvt0.ext cb2
 have f10 := f9.ext c6
 refine sp rfl (px_len rfl Tryz.underlying33 f10.sv) ?_
 refine sx_guardT rfl rfl rfl ?_
 refine sp rfl (px_gt rfl rfl) ?_
 refine sp rfl (px_pick rfl rfl) ?_
 refine wl_nil (q_n (k5 _ _ ?_))
 refine sx_condP rfl (fun h21x1 => ?_) (fun h21x1 => ?_)
 ·
  refine sx_seq fun K11 k11 => sx_region ?_
  refine av rfl rfl (wl_nil (q_n (k11 _ _ ?_)))
  refine sx_retc ?_
  refine q_r (sx_ret1 Tryz.results66 rfl ?_)
  exact ⟨bFalse (fun h => by first | exact absurd h.1 (by assumption) | (have := h.2.1; omega)), (cb2.t c6)⟩
 refine sx_skip ?_
 refine q_n (k4 _ _ ?_)
 refine sx_seq fun K12 k12 => ?_
 refine sx_seq fun K13 k13 => sx_region ?_
 refine sp rfl (px_field rfl xfld35x1) ?_
 refine sp rfl (px_load rfl (f8.load1 rfl Tryz.isAgg33)) ?_
 refine sp rfl (px_len rfl Tryz.underlying33 f10.sv) ?_
 refine mv rfl rfl (wl_nil (q_n (k13 _ _ ?_)))
 refine sx_sub (Sub.c 1 rfl (.c 2 rfl (.c 16 rfl (.c 17 rfl (.c 18 rfl .nil))))) ?_
 refine sx_block ?_
 refine sx_loop (fun mm aa w' => ∃ (k : Nat), Agr 38 [(1, .pointer (some ⟨b2, 0, none⟩)), (16, vt), (17, .int .i64 (↑(ts).length)), (18, .int .i64 ↑k)] aa ∧ Chg b2 (b2 + 1) w6 w' ∧ Blk w' b2 [.string pv, vt] 35 ∧ (mm = ts.length - k) ∧ (k ≤ ts.length) ∧ (AllTo ts k)) (_) (fun a ha => ⟨0, ha.sub (Sub.c 1 rfl (.c 16 rfl (.c 17 (look_int (t := 17) rfl (by first | omega | simp)) (.c 18 (look_int (t := 18) rfl (by first | omega | simp)) .nil)))), Chg.refl _ _ _, f8, rfl, by omega, AllTo_zero ts⟩) ?_
 rintro mm aa wl14 ⟨k, hAwl14, cwl14, hb_b2, hm, hk, hall⟩
 refine (show cw Tryz.prog 38 _ _ _ wl14 from ?_) aa hAwl14
 clear hAwl14
 have zwl14 := cwl14.size
 refine sx_seq fun K15 k15 => sx_region ?_
 refine sp rfl (px_lt rfl rfl) ?_
 refine wl_nil (q_n (k15 _ _ ?_))
 refine sx_seq fun K16 k16 => ?_
 refine sx_condP rfl (fun h24 => ?_) (fun h24 => ?_)
 ·
  refine sx_skip ?_
  refine q_n (k16 _ _ ?_)
  refine sx_seq fun K17 k17 => ?_
  refine sx_block ?_
  refine sx_seq fun K18 k18 => sx_region ?_
  refine mv rfl rfl ?_
  have f19 := f10.chg cwl14 (by omega)
  refine sp rfl (px_indexK (j := k) rfl rfl (by omega) Tryz.underlying33 Tryz.sizeOf99 f19.sv (by omega)) ?_
  refine sp rfl (px_load rfl (f19.sv.loadA (rt_look f19.len (by omega)) Tryz.isAgg99 Tryz.sizeOf99)) ?_
  refine sx_alloc [.string (⟨#[]⟩), .string (⟨#[]⟩), .bool false, (.slice none 0 0), .int .i64 0] rfl Tryz.zeroValue99 rfl (fun b20 w21 eb20 sb20 fb20 cb20 => ?_)
  have zw21 := cb20.size
  refine av rfl rfl ?_
  have f23 := (f19.nest k (by omega)).ext cb20
  refine sx_store (vs := [.string ((ts.getD k rt0).1), .string ((ts.getD k rt0).2.1), .bool ((ts.getD k rt0).2.2.1), (vvt.getD k vz), .int .i64 ((ts.getD k rt0).2.2.2.2)]) rfl rfl fb20 rfl Tryz.sizeOf99 (nbl rfl) (one_cons rfl (one_cons rfl (one_cons rfl (one_cons f23.one (o1 rfl))))) (fun w22 sw22 fw22 cw22 => ?_)
  have zw22 := cw22.size
  have gw22 : Blk w22 b20 [.string ((ts.getD k rt0).1), .string ((ts.getD k rt0).2.1), .bool ((ts.getD k rt0).2.2.1), (vvt.getD k vz), .int .i64 ((ts.getD k rt0).2.2.2.2)] 99 := fw22
  refine wl_nil (q_n (k18 _ _ ?_))
  refine sx_seq fun K24 k24 => sx_region ?_
  refine sp rfl (px_load rfl (gw22.loadA (vs := [.string ((ts.getD k rt0).1), .string ((ts.getD k rt0).2.1), .bool ((ts.getD k rt0).2.2.1), (vvt.getD k vz), .int .i64 ((ts.getD k rt0).2.2.2.2)]) (look_lit rfl) Tryz.isAgg99 Tryz.sizeOf99)) ?_
  have f25 := f23.chg cw22 (by omega)
  refine sx_call rfl rfl Tryz.call106 (c_sRateOk f25 (hz k (by omega))) (fun v26 w26 p26 => ?_)
  obtain ⟨rfl, c26⟩ := p26
  have zw26 := c26.size
  refine sp rfl (px_notP rfl) ?_
  refine mv rfl rfl ?_
  refine sx_tmpP (t := 26) rfl (fun h25 => ?_) (fun h25 => ?_)
  ·
   refine sx_guardF rfl rfl rfl rfl rfl rfl ?_
   refine sx_guardF rfl rfl rfl rfl rfl rfl ?_
   refine sx_guardF rfl rfl rfl rfl rfl rfl ?_
   refine sx_guardF rfl rfl rfl rfl rfl rfl ?_
   refine sx_guardF rfl rfl rfl rfl rfl rfl ?_
   refine sx_guardF rfl rfl rfl rfl rfl rfl ?_
   refine sx_guardF rfl rfl rfl rfl rfl rfl ?_
   refine sx_guardF rfl rfl rfl rfl rfl rfl ?_
   refine sx_guardF rfl rfl rfl rfl rfl rfl ?_
   refine sp rfl (px_pick rfl rfl) ?_
   refine wl_nil (q_n (k24 _ _ ?_))
   refine sx_sub (Sub.c 1 rfl (.c 16 rfl (.c 17 rfl (.c 18 rfl (.c 36 rfl .nil))))) ?_
   refine sx_condT rfl ?_
   refine sx_seq fun K27 k27 => sx_region ?_
   refine av rfl rfl (wl_nil (q_n (k27 _ _ ?_)))
   refine sx_retc ?_
   refine q_br (q_r (q_r (q_br (q_r (sx_ret1 Tryz.results66 rfl ?_)))))
   have q28 := Chg.step (l := 0) (h := 0) (Chg.zero (l := 0) (h := 0) (cb2.t c6)) cwl14 (by omega)
   have q29 := Chg.step (l := 0) (h := 0) q28 cb20 (by omega)
   have q30 := Chg.step (l := 0) (h := 0) q29 cw22 (by omega)
   have q31 := Chg.step (l := 0) (h := 0) q30 c26 (by omega)
   exact ⟨(by first | exact bFalse (rsok_no_rate (k := k) (by omega) h25) | exact bFalse (rsok_no_key (k := k) (by omega) (fun hh => h25x1 ((atI_self (by omega)).2 hh)))), q31⟩
  refine sx_guardT rfl rfl rfl ?_
  refine sp rfl (px_field rfl xfld35x1) ?_
  refine sx_guardT rfl rfl rfl ?_
  have f32 := hb_b2.ext cb20
  have f33 := f32.chg cw22 (by omega)
  have f34 := f33.ext c26
  refine sp rfl (px_load rfl (f34.load1 rfl Tryz.isAgg33)) ?_
  refine sx_guardT rfl rfl rfl ?_
  refine sp rfl (px_field rfl xfld99x0) ?_
  refine sx_guardT rfl rfl rfl ?_
  have f35 := gw22.ext c26
  refine sp rfl (px_load rfl (f35.load1 rfl Tryz.isAgg9)) ?_
  refine sx_guardT rfl rfl rfl ?_
  refine sp rfl (px_field rfl xfld99x1) ?_
  refine sx_guardT rfl rfl rfl ?_
  refine sp rfl (px_load rfl (f35.load1 rfl Tryz.isAgg9)) ?_
  refine sx_guardT rfl rfl rfl ?_
  have f36 := f19.ext cb20
  have f37 := f36.chg cw22 (by omega)
  have f38 := f37.ext c26
  refine sx_call rfl rfl Tryz.call72 (c_l10At f38 (by omega)) (fun v39 w39 p39 => ?_)
  obtain ⟨rfl, c39⟩ := p39
  have zw39 := c39.size
  refine sx_guardT rfl rfl rfl ?_
  refine mv rfl rfl ?_
  refine sx_guardT rfl rfl rfl ?_
  refine sp rfl (px_ne rfl rfl) ?_
  refine sp rfl (px_pick rfl rfl) ?_
  refine wl_nil (q_n (k24 _ _ ?_))
  refine sx_sub (Sub.c 1 rfl (.c 16 rfl (.c 17 rfl (.c 18 rfl (.c 36 rfl .nil))))) ?_
  refine sx_condP rfl (fun h25x1 => ?_) (fun h25x1 => ?_)
  ·
   refine sx_seq fun K40 k40 => sx_region ?_
   refine av rfl rfl (wl_nil (q_n (k40 _ _ ?_)))
   refine sx_retc ?_
   refine q_br (q_r (q_r (q_br (q_r (sx_ret1 Tryz.results66 rfl ?_)))))
   have q41 := Chg.step (l := 0) (h := 0) (Chg.zero (l := 0) (h := 0) (cb2.t c6)) cwl14 (by omega)
   have q42 := Chg.step (l := 0) (h := 0) q41 cb20 (by omega)
   have q43 := Chg.step (l := 0) (h := 0) q42 cw22 (by omega)
   have q44 := Chg.step (l := 0) (h := 0) q43 (c26.t c39) (by omega)
   exact ⟨(by first | exact bFalse (rsok_no_rate (k := k) (by omega) h25) | exact bFalse (rsok_no_key (k := k) (by omega) (fun hh => h25x1 ((atI_self (by omega)).2 hh)))), q44⟩
  refine sx_skip ?_
  refine q_bn (q_n (k17 _ _ ?_))
  refine sx_region ?_
  refine sp rfl (px_add rfl rfl (by omega)) ?_
  refine mv rfl rfl (wl_nil ?_)
  have q45 := Chg.step (l := b2) (h := (b2 + 1)) cwl14 cb20 (by omega)
  have q46 := Chg.step (l := b2) (h := (b2 + 1)) q45 cw22 (by omega)
  have q47 := Chg.step (l := b2) (h := (b2 + 1)) q46 (c26.t c39) (by omega)
  have f48 := f34.ext c39
  exact fun a ha => ⟨_, by omega, (k + 1), ha.sub (Sub.c 1 rfl (.c 16 rfl (.c 17 rfl (.c 18 (look_int (t := 18) rfl (by first | omega | simp)) .nil)))), q47, f48, rfl, by omega, AllTo_succ hall (Decidable.not_not.1 h25) ((atI_self (by omega)).1 (Decidable.not_not.1 h25x1))⟩
 refine sx_exit ?_
 refine q_e (q_e (q_bx (q_n (k12 _ _ ?_))))
 refine sx_seq fun K49 k49 => sx_region ?_
 refine av rfl rfl (wl_nil (q_n (k49 _ _ ?_)))
 refine sx_retc ?_
 refine sx_ret1 Tryz.results66 rfl ?_
 have ek : k = ts.length := by omega
 subst ek
 have q50 := Chg.step (l := 0) (h := 0) (Chg.zero (l := 0) (h := 0) (cb2.t c6)) cwl14 (by omega)
 exact ⟨bTrue ⟨Decidable.not_not.1 h21, by omega, hall⟩, q50⟩

theorem c_l10Leg {w : World} {pv : ByteArray} {vt : Value} {lvt uvt : Nat} {ts : List Rt} {vvt : List Value} {a : ByteArray} {b : ByteArray} (hvt : RtS w lvt uvt vt ts vvt) (h63 : ts.length ≤ 4611686018427387904) :
  Ret Tryz.prog 68 [.agg #[.string pv, vt], .string a, .string b] w fun v w' => v = .int .i64 (leg ts a b) ∧ Chg 0 0 w w' := by
 have hvt0 := hvt.fit
 refine sx_enter Tryz.func68 rfl Tryz.ntmps68 (nbl rfl) ?_
 refine sx_seq fun K1 k1 => sx_region ?_
 refine sx_box [.string pv, vt] rfl rfl rfl (fun b2 w3 eb2 sb2 fb2 cb2 => ?_)
 have zw3 := cb2.size
 refine av rfl rfl (wl_nil (q_n (k1 _ _ ?_)))
 refine sx_seq fun K4 k4 => ?_
 refine sx_seq fun K5 k5 => sx_region ?_
 refine sp rfl (px_field rfl xfld35x1) ?_
 refine sp rfl (px_load rfl (fb2.load1 rfl Tryz.isAgg33)) ?_
 refine mv rfl rfl (mv rfl rfl ?_)
 have f6 := hvt0.ext cb2
 refine sx_call rfl rfl Tryz.call72 (c_l10At f6 (by omega)) (fun v7 w7 p7 => ?_)
 obtain ⟨rfl, c7⟩ := p7
 have zw7 := c7.size
 refine sp rfl (px_ge rfl rfl) ?_
 refine wl_nil (q_n (k5 _ _ ?_))
 refine sx_condP rfl (fun h64 => ?_) (fun h64 => ?_)
 ·
  refine sx_seq fun K8 k8 => sx_region ?_
  refine av rfl rfl (wl_nil (q_n (k8 _ _ ?_)))
  refine sx_retc ?_
  refine q_r (sx_ret1 Tryz.results68 rfl ?_)
  exact ⟨(by unfold leg; rw [if_pos h64]), (cb2.t c7)⟩
 refine sx_skip ?_
 refine q_n (k4 _ _ ?_)
 refine sx_seq fun K9 k9 => ?_
 refine sx_seq fun K10 k10 => sx_region ?_
 refine sp rfl (px_field rfl xfld35x1) ?_
 have f11 := fb2.ext c7
 refine sp rfl (px_load rfl (f11.load1 rfl Tryz.isAgg33)) ?_
 refine mv rfl rfl (mv rfl rfl ?_)
 have f12 := f6.ext c7
 refine sx_call rfl rfl Tryz.call72 (c_l10At f12 (by omega)) (fun v13 w13 p13 => ?_)
 obtain ⟨rfl, c13⟩ := p13
 have zw13 := c13.size
 refine sp rfl (px_ge rfl rfl) ?_
 refine wl_nil (q_n (k10 _ _ ?_))
 refine sx_sub (Sub.c 6 rfl (.c 18 rfl .nil)) ?_
 refine sx_condP rfl (fun h67 => ?_) (fun h67 => ?_)
 ·
  refine sx_seq fun K14 k14 => sx_region ?_
  refine av rfl rfl (wl_nil (q_n (k14 _ _ ?_)))
  refine sx_retc ?_
  refine q_r (sx_ret1 Tryz.results68 rfl ?_)
  exact ⟨(by unfold leg; rw [if_neg h64, if_pos h67]), ((cb2.t c7).t c13)⟩
 refine sx_skip ?_
 refine q_n (k9 _ _ ?_)
 refine sx_seq fun K15 k15 => sx_region ?_
 refine av rfl rfl (wl_nil (q_n (k15 _ _ ?_)))
 refine sx_retc ?_
 refine sx_ret1 Tryz.results68 rfl ?_
 exact ⟨(by unfold leg; rw [if_neg h64, if_neg h67]), ((cb2.t c7).t c13)⟩

theorem c_sRateHow {w : World} {pv : ByteArray} {vt : Value} {lvt uvt : Nat} {ts : List Rt} {vvt : List Value} {a : ByteArray} {b : ByteArray} (hvt : RtS w lvt uvt vt ts vvt) (h63 : ts.length ≤ 4611686018427387904) (hz : ∀ i, i < ts.length → (ts.getD i rt0).2.2.2.1.length ≤ 4611686018427387904) :
  Ret Tryz.prog 28 [.agg #[.string pv, vt], .string a, .string b] w fun v w' => v = .int .i64 (how pv ts a b) ∧ Chg 0 0 w w' := by
 have hvt0 := hvt.fit
 refine sx_enter Tryz.func28 rfl Tryz.ntmps28 (nbl rfl) ?_
 refine sx_seq fun K1 k1 => sx_region ?_
 refine sx_box [.string pv, vt] rfl rfl rfl (fun b2 w3 eb2 sb2 fb2 cb2 => ?_)
 have zw3 := cb2.size
 refine av rfl rfl (wl_nil (q_n (k1 _ _ ?_)))
 refine sx_seq fun K4 k4 => ?_
 refine sx_seq fun K5 k5 => sx_region ?_
 refine sp rfl (px_load rfl (fb2.loadA (vs := [.string pv, vt]) (look_lit rfl) Tryz.isAgg35 Tryz.sizeOf35)) ?_
 have f6 := hvt0.ext cb2
 refine sx_call rfl rfl Tryz.call66 (c_sRatesOk f6 (by omega) (by first | assumption | exact fun i hi => Nat.le_trans (hzz i hi) (by omega))) (fun v7 w7 p7 => ?_)
 obtain ⟨rfl, c7⟩ := p7
 have zw7 := c7.size
 refine sp rfl (px_notP rfl) ?_
 refine mv rfl rfl ?_
 refine sx_tmpP (t := 11) rfl (fun h75 => ?_) (fun h75 => ?_)
 ·
  refine sx_guardF rfl rfl rfl rfl rfl rfl ?_
  refine sx_guardF rfl rfl rfl rfl rfl rfl ?_
  refine sx_guardF rfl rfl rfl rfl rfl rfl ?_
  refine sp rfl (px_pick rfl rfl) ?_
  refine mv rfl rfl ?_
  refine sx_guardF rfl rfl rfl rfl rfl rfl ?_
  refine sx_guardF rfl rfl rfl rfl rfl rfl ?_
  refine sx_guardF rfl rfl rfl rfl rfl rfl ?_
  refine sp rfl (px_pick rfl rfl) ?_
  refine wl_nil (q_n (k5 _ _ ?_))
  refine sx_sub (Sub.c 1 rfl (.c 2 rfl (.c 3 rfl (.c 6 rfl (.c 20 rfl .nil))))) ?_
  refine sx_condT rfl ?_
  refine sx_seq fun K8 k8 => sx_region ?_
  refine av rfl rfl (wl_nil (q_n (k8 _ _ ?_)))
  refine sx_retc ?_
  refine q_r (sx_ret1 Tryz.results28 rfl ?_)
  exact ⟨(by unfold how; first | grind | simp_all), (cb2.t c7)⟩
 refine sx_guardT rfl rfl rfl ?_
 refine mv rfl rfl ?_
 refine sx_guardT rfl rfl rfl ?_
 refine sx_call rfl rfl Tryz.call67 (c_sCurKnown) (fun v9 w9 p9 => ?_)
 obtain ⟨rfl, c9⟩ := p9
 have zw9 := c9.size
 refine sx_guardT rfl rfl rfl ?_
 refine sp rfl (px_notP rfl) ?_
 refine sp rfl (px_pick rfl rfl) ?_
 refine mv rfl rfl ?_
 refine sx_tmpP (t := 16) rfl (fun h75x1 => ?_) (fun h75x1 => ?_)
 ·
  refine sx_guardF rfl rfl rfl rfl rfl rfl ?_
  refine sx_guardF rfl rfl rfl rfl rfl rfl ?_
  refine sx_guardF rfl rfl rfl rfl rfl rfl ?_
  refine sp rfl (px_pick rfl rfl) ?_
  refine wl_nil (q_n (k5 _ _ ?_))
  refine sx_sub (Sub.c 1 rfl (.c 2 rfl (.c 3 rfl (.c 6 rfl (.c 20 rfl .nil))))) ?_
  refine sx_condT rfl ?_
  refine sx_seq fun K10 k10 => sx_region ?_
  refine av rfl rfl (wl_nil (q_n (k10 _ _ ?_)))
  refine sx_retc ?_
  refine q_r (sx_ret1 Tryz.results28 rfl ?_)
  exact ⟨(by unfold how; first | grind | simp_all), ((cb2.t c7).t c9)⟩
 refine sx_guardT rfl rfl rfl ?_
 refine mv rfl rfl ?_
 refine sx_guardT rfl rfl rfl ?_
 refine sx_call rfl rfl Tryz.call67 (c_sCurKnown) (fun v11 w11 p11 => ?_)
 obtain ⟨rfl, c11⟩ := p11
 have zw11 := c11.size
 refine sx_guardT rfl rfl rfl ?_
 refine sp rfl (px_notP rfl) ?_
 refine sp rfl (px_pick rfl rfl) ?_
 refine wl_nil (q_n (k5 _ _ ?_))
 refine sx_sub (Sub.c 1 rfl (.c 2 rfl (.c 3 rfl (.c 6 rfl (.c 20 rfl .nil))))) ?_
 refine sx_condP rfl (fun h75x2 => ?_) (fun h75x2 => ?_)
 ·
  refine sx_seq fun K12 k12 => sx_region ?_
  refine av rfl rfl (wl_nil (q_n (k12 _ _ ?_)))
  refine sx_retc ?_
  refine q_r (sx_ret1 Tryz.results28 rfl ?_)
  exact ⟨(by unfold how; first | grind | simp_all), (((cb2.t c7).t c9).t c11)⟩
 refine sx_skip ?_
 refine q_n (k4 _ _ ?_)
 refine sx_seq fun K13 k13 => ?_
 refine sx_seq fun K14 k14 => sx_region ?_
 refine mv rfl rfl (mv rfl rfl (sp rfl (px_eqS rfl rfl) ?_))
 refine wl_nil (q_n (k14 _ _ ?_))
 refine sx_condP rfl (fun h78 => ?_) (fun h78 => ?_)
 ·
  refine sx_seq fun K15 k15 => sx_region ?_
  refine av rfl rfl (wl_nil (q_n (k15 _ _ ?_)))
  refine sx_retc ?_
  refine q_r (sx_ret1 Tryz.results28 rfl ?_)
  exact ⟨(by unfold how; first | grind | simp_all), (((cb2.t c7).t c9).t c11)⟩
 refine sx_skip ?_
 refine q_n (k13 _ _ ?_)
 refine sx_seq fun K16 k16 => sx_region ?_
 have f19 := ((fb2.ext c7).ext c9).ext c11
 refine sp rfl (px_load rfl (f19.loadA (vs := [.string pv, vt]) (look_lit rfl) Tryz.isAgg35 Tryz.sizeOf35)) ?_
 refine mv rfl rfl (mv rfl rfl ?_)
 have f22 := ((f6.ext c7).ext c9).ext c11
 refine sx_call rfl rfl Tryz.call68 (c_l10Leg f22 (by omega)) (fun v23 w23 p23 => ?_)
 obtain ⟨rfl, c23⟩ := p23
 have zw23 := c23.size
 refine av rfl rfl (wl_nil (q_n (k16 _ _ ?_)))
 refine sx_seq fun K24 k24 => ?_
 refine sx_seq fun K25 k25 => sx_region ?_
 refine mv rfl rfl (sp rfl (px_ne rfl rfl) ?_)
 refine wl_nil (q_n (k25 _ _ ?_))
 refine sx_sub (Sub.c 1 rfl (.c 2 rfl (.c 3 rfl (.c 6 rfl (.c 7 rfl (.c 29 rfl .nil)))))) ?_
 refine sx_condP rfl (fun h82 => ?_) (fun h82 => ?_)
 ·
  refine sx_seq fun K26 k26 => sx_region ?_
  refine mv rfl rfl (av rfl rfl (wl_nil (q_n (k26 _ _ ?_))))
  refine sx_retc ?_
  refine q_r (sx_ret1 Tryz.results28 rfl ?_)
  exact ⟨(by unfold how; first | grind | simp_all), ((((cb2.t c7).t c9).t c11).t c23)⟩
 refine sx_skip ?_
 refine q_n (k24 _ _ ?_)
 refine sx_seq fun K27 k27 => ?_
 refine sx_seq fun K28 k28 => sx_region ?_
 refine mv rfl rfl (sp rfl (px_field rfl xfld35x0) ?_)
 have f29 := f19.ext c23
 refine sp rfl (px_load rfl (f29.load1 rfl Tryz.isAgg9)) ?_
 refine sp rfl (px_neS rfl rfl) ?_
 refine mv rfl rfl ?_
 refine sx_tmpP (t := 35) rfl (fun h85 => ?_) (fun h85 => ?_)
 ·
  refine sx_guardT rfl rfl rfl ?_
  refine mv rfl rfl ?_
  refine sx_guardT rfl rfl rfl ?_
  refine sp rfl (px_field rfl xfld35x0) ?_
  refine sx_guardT rfl rfl rfl ?_
  refine sp rfl (px_load rfl (f29.load1 rfl Tryz.isAgg9)) ?_
  refine sx_guardT rfl rfl rfl ?_
  refine sp rfl (px_neS rfl rfl) ?_
  refine sp rfl (px_pick rfl rfl) ?_
  refine mv rfl rfl ?_
  refine sx_tmpP (t := 41) rfl (fun h85x1 => ?_) (fun h85x1 => ?_)
  ·
   refine sx_guardT rfl rfl rfl ?_
   refine sp rfl (px_load rfl (f29.loadA (vs := [.string pv, vt]) (look_lit rfl) Tryz.isAgg35 Tryz.sizeOf35)) ?_
   refine sx_guardT rfl rfl rfl ?_
   refine mv rfl rfl ?_
   refine sx_guardT rfl rfl rfl ?_
   refine sp rfl (px_field rfl xfld35x0) ?_
   refine sx_guardT rfl rfl rfl ?_
   refine sp rfl (px_load rfl (f29.load1 rfl Tryz.isAgg9)) ?_
   refine sx_guardT rfl rfl rfl ?_
   have f30 := f22.ext c23
   refine sx_call rfl rfl Tryz.call68 (c_l10Leg f30 (by omega)) (fun v31 w31 p31 => ?_)
   obtain ⟨rfl, c31⟩ := p31
   have zw31 := c31.size
   refine sx_guardT rfl rfl rfl ?_
   refine sp rfl (px_ne rfl rfl) ?_
   refine sp rfl (px_pick rfl rfl) ?_
   refine mv rfl rfl ?_
   refine sx_tmpP (t := 49) rfl (fun h85x2 => ?_) (fun h85x2 => ?_)
   ·
    refine sx_guardT rfl rfl rfl ?_
    have f32 := f29.ext c31
    refine sp rfl (px_load rfl (f32.loadA (vs := [.string pv, vt]) (look_lit rfl) Tryz.isAgg35 Tryz.sizeOf35)) ?_
    refine sx_guardT rfl rfl rfl ?_
    refine sp rfl (px_field rfl xfld35x0) ?_
    refine sx_guardT rfl rfl rfl ?_
    refine sp rfl (px_load rfl (f32.load1 rfl Tryz.isAgg9)) ?_
    refine sx_guardT rfl rfl rfl ?_
    refine mv rfl rfl ?_
    refine sx_guardT rfl rfl rfl ?_
    have f33 := f30.ext c31
    refine sx_call rfl rfl Tryz.call68 (c_l10Leg f33 (by omega)) (fun v34 w34 p34 => ?_)
    obtain ⟨rfl, c34⟩ := p34
    have zw34 := c34.size
    refine sx_guardT rfl rfl rfl ?_
    refine sp rfl (px_ne rfl rfl) ?_
    refine sp rfl (px_pick rfl rfl) ?_
    refine wl_nil (q_n (k28 _ _ ?_))
    refine sx_sub (Sub.c 6 rfl (.c 56 rfl .nil)) ?_
    refine sx_condP rfl (fun h85x3 => ?_) (fun h85x3 => ?_)
    ·
     refine sx_seq fun K35 k35 => sx_region ?_
     refine av rfl rfl (wl_nil (q_n (k35 _ _ ?_)))
     refine sx_retc ?_
     refine q_r (sx_ret1 Tryz.results28 rfl ?_)
     exact ⟨(by unfold how; first | grind | simp_all), ((((((cb2.t c7).t c9).t c11).t c23).t c31).t c34)⟩
    refine sx_skip ?_
    refine q_n (k27 _ _ ?_)
    refine sx_seq fun K36 k36 => sx_region ?_
    refine av rfl rfl (wl_nil (q_n (k36 _ _ ?_)))
    refine sx_retc ?_
    refine sx_ret1 Tryz.results28 rfl ?_
    exact ⟨(by unfold how; first | grind | simp_all), ((((((cb2.t c7).t c9).t c11).t c23).t c31).t c34)⟩
   refine sx_guardF rfl rfl rfl rfl rfl rfl ?_
   refine sx_guardF rfl rfl rfl rfl rfl rfl ?_
   refine sx_guardF rfl rfl rfl rfl rfl rfl ?_
   refine sx_guardF rfl rfl rfl rfl rfl rfl ?_
   refine sx_guardF rfl rfl rfl rfl rfl rfl ?_
   refine sx_guardF rfl rfl rfl rfl rfl rfl ?_
   refine sp rfl (px_pick rfl rfl) ?_
   refine wl_nil (q_n (k28 _ _ ?_))
   refine sx_sub (Sub.c 6 rfl (.c 56 rfl .nil)) ?_
   refine sx_condF rfl ?_
   refine sx_skip ?_
   refine q_n (k27 _ _ ?_)
   refine sx_seq fun K37 k37 => sx_region ?_
   refine av rfl rfl (wl_nil (q_n (k37 _ _ ?_)))
   refine sx_retc ?_
   refine sx_ret1 Tryz.results28 rfl ?_
   exact ⟨(by unfold how; first | grind | simp_all), (((((cb2.t c7).t c9).t c11).t c23).t c31)⟩
  refine sx_guardF rfl rfl rfl rfl rfl rfl ?_
  refine sx_guardF rfl rfl rfl rfl rfl rfl ?_
  refine sx_guardF rfl rfl rfl rfl rfl rfl ?_
  refine sx_guardF rfl rfl rfl rfl rfl rfl ?_
  refine sx_guardF rfl rfl rfl rfl rfl rfl ?_
  refine sx_guardF rfl rfl rfl rfl rfl rfl ?_
  refine sp rfl (px_pick rfl rfl) ?_
  refine mv rfl rfl ?_
  refine sx_guardF rfl rfl rfl rfl rfl rfl ?_
  refine sx_guardF rfl rfl rfl rfl rfl rfl ?_
  refine sx_guardF rfl rfl rfl rfl rfl rfl ?_
  refine sx_guardF rfl rfl rfl rfl rfl rfl ?_
  refine sx_guardF rfl rfl rfl rfl rfl rfl ?_
  refine sx_guardF rfl rfl rfl rfl rfl rfl ?_
  refine sp rfl (px_pick rfl rfl) ?_
  refine wl_nil (q_n (k28 _ _ ?_))
  refine sx_sub (Sub.c 6 rfl (.c 56 rfl .nil)) ?_
  refine sx_condF rfl ?_
  refine sx_skip ?_
  refine q_n (k27 _ _ ?_)
  refine sx_seq fun K38 k38 => sx_region ?_
  refine av rfl rfl (wl_nil (q_n (k38 _ _ ?_)))
  refine sx_retc ?_
  refine sx_ret1 Tryz.results28 rfl ?_
  exact ⟨(by unfold how; first | grind | simp_all), ((((cb2.t c7).t c9).t c11).t c23)⟩
 refine sx_guardF rfl rfl rfl rfl rfl rfl ?_
 refine sx_guardF rfl rfl rfl rfl rfl rfl ?_
 refine sx_guardF rfl rfl rfl rfl rfl rfl ?_
 refine sx_guardF rfl rfl rfl rfl rfl rfl ?_
 refine sp rfl (px_pick rfl rfl) ?_
 refine mv rfl rfl ?_
 refine sx_guardF rfl rfl rfl rfl rfl rfl ?_
 refine sx_guardF rfl rfl rfl rfl rfl rfl ?_
 refine sx_guardF rfl rfl rfl rfl rfl rfl ?_
 refine sx_guardF rfl rfl rfl rfl rfl rfl ?_
 refine sx_guardF rfl rfl rfl rfl rfl rfl ?_
 refine sx_guardF rfl rfl rfl rfl rfl rfl ?_
 refine sp rfl (px_pick rfl rfl) ?_
 refine mv rfl rfl ?_
 refine sx_guardF rfl rfl rfl rfl rfl rfl ?_
 refine sx_guardF rfl rfl rfl rfl rfl rfl ?_
 refine sx_guardF rfl rfl rfl rfl rfl rfl ?_
 refine sx_guardF rfl rfl rfl rfl rfl rfl ?_
 refine sx_guardF rfl rfl rfl rfl rfl rfl ?_
 refine sx_guardF rfl rfl rfl rfl rfl rfl ?_
 refine sp rfl (px_pick rfl rfl) ?_
 refine wl_nil (q_n (k28 _ _ ?_))
 refine sx_sub (Sub.c 6 rfl (.c 56 rfl .nil)) ?_
 refine sx_condF rfl ?_
 refine sx_skip ?_
 refine q_n (k27 _ _ ?_)
 refine sx_seq fun K39 k39 => sx_region ?_
 refine av rfl rfl (wl_nil (q_n (k39 _ _ ?_)))
 refine sx_retc ?_
 refine sx_ret1 Tryz.results28 rfl ?_
 exact ⟨(by unfold how; first | grind | simp_all), ((((cb2.t c7).t c9).t c11).t c23)⟩

theorem c_l02Trim {w : World} {va : Value} {lva uva : Nat} {zs : List Int} (hva : OwnI w lva uva va intT (zs)) (hz : Lm zs) (h63 : zs.length ≤ 1000000) :
  Ret Tryz.prog 113 [va] w fun v w' => ∃ s, v = s ∧ OwnI w' (lva) (uva) s intT (dg (vl zs)) ∧ Chg 0 0 w w' := by
 refine sx_enter Tryz.func113 rfl Tryz.ntmps113 (nbl rfl) ?_
 refine sx_seq fun K1 k1 => sx_region ?_
 refine av rfl rfl (wl_nil (q_n (k1 _ _ ?_)))
 refine sx_seq fun K2 k2 => sx_region ?_
 refine mv rfl rfl (sp rfl (px_len rfl Tryz.underlying26 hva.sv) ?_)
 refine av rfl rfl (wl_nil (q_n (k2 _ _ ?_)))
 refine sx_seq fun K3 k3 => ?_
 refine sx_block ?_
 refine sx_loop (fun mm aa w' => ∃ (k : Nat), Agr 21 [(0, va), (3, .int .i64 ↑k)] aa ∧ Chg 0 0 w w' ∧ (mm = k) ∧ (k ≤ zs.length) ∧ (vl (zs.take k) = vl zs)) (_) (fun a ha => ⟨zs.length, ha.sub (Sub.c 0 rfl (.c 3 (look_int (t := 3) rfl (by first | omega | simp)) .nil)), Chg.refl _ _ _, rfl, by omega, vl_take_all zs⟩) ?_
 rintro mm aa wl4 ⟨k, hAwl4, cwl4, hm, hk, hv⟩
 refine (show cw Tryz.prog 21 _ _ _ wl4 from ?_) aa hAwl4
 clear hAwl4
 have zwl4 := cwl4.size
 refine sx_seq fun K5 k5 => ?_
 refine sx_seq fun K6 k6 => sx_region ?_
 refine mv rfl rfl (sp rfl (px_gt rfl rfl) ?_)
 refine mv rfl rfl ?_
 refine sx_tmpP (t := 8) rfl (fun h17 => ?_) (fun h17 => ?_)
 ·
  refine sx_guardT rfl rfl rfl ?_
  refine mv rfl rfl ?_
  refine sx_guardT rfl rfl rfl ?_
  refine mv rfl rfl ?_
  refine sx_guardT rfl rfl rfl ?_
  refine sp rfl (px_sub rfl rfl (by omega)) ?_
  refine sx_guardT rfl rfl rfl ?_
  have f7 := hva.ext cwl4
  refine sp rfl (px_index1 (j := (k - 1)) rfl rfl (by omega) Tryz.underlying26 Tryz.sizeOf3 f7.sv (by omega)) ?_
  refine sx_guardT rfl rfl rfl ?_
  refine sp rfl (px_load rfl (f7.sv.load1 (at_int (by omega)) Tryz.isAgg3)) ?_
  refine sx_guardT rfl rfl rfl ?_
  refine sp rfl (px_eq rfl rfl) ?_
  refine sp rfl (px_pick rfl rfl) ?_
  refine wl_nil (q_n (k6 _ _ ?_))
  refine sx_condP rfl (fun h17x1 => ?_) (fun h17x1 => ?_)
  ·
   refine sx_skip ?_
   refine q_n (k5 _ _ ?_)
   refine sx_block ?_
   refine sx_region ?_
   refine mv rfl rfl (sp rfl (px_sub rfl rfl (by omega)) ?_)
   refine av rfl rfl (wl_nil ?_)
   exact q_bn (fun a ha => ⟨_, by omega, (k - 1), ha.sub (Sub.c 0 rfl (.c 3 (look_int (t := 3) rfl (by first | omega | simp)) .nil)), cwl4, rfl, by omega, trim_step (by omega) hk (by rw [getD_take (by omega)]; exact h17x1) hv⟩)
  refine sx_exit ?_
  refine q_e (q_e (q_bx (q_n (k3 _ _ ?_))))
  refine sx_seq fun K8 k8 => sx_region ?_
  refine mv rfl rfl (mv rfl rfl (sp rfl (px_sliceTo (h := k) rfl rfl (by omega) Tryz.underlying26 Tryz.sizeOf3 f7.sv (by omega)) ?_))
  refine av rfl rfl (wl_nil (q_n (k8 _ _ ?_)))
  refine sx_sub (Sub.c 2 rfl .nil) ?_
  refine sx_retc ?_
  refine sx_ret1 Tryz.results113 rfl ?_
  have hd := trim_done hz hk hv (by first | exact .inl (by omega) | exact .inr (by rw [getD_take (by omega)]; assumption))
  rw [← hd]
  exact ⟨_, rfl, (Own.takeI f7 (h := k) (by omega)), cwl4⟩
 refine sx_guardF rfl rfl rfl rfl rfl rfl ?_
 refine sx_guardF rfl rfl rfl rfl rfl rfl ?_
 refine sx_guardF rfl rfl rfl rfl rfl rfl ?_
 refine sx_guardF rfl rfl rfl rfl rfl rfl ?_
 refine sx_guardF rfl rfl rfl rfl rfl rfl ?_
 refine sx_guardF rfl rfl rfl rfl rfl rfl ?_
 refine sp rfl (px_pick rfl rfl) ?_
 refine wl_nil (q_n (k6 _ _ ?_))
 refine sx_condF rfl ?_
 refine sx_exit ?_
 refine q_e (q_e (q_bx (q_n (k3 _ _ ?_))))
 refine sx_seq fun K9 k9 => sx_region ?_
 refine mv rfl rfl (mv rfl rfl ?_)
 have f10 := hva.ext cwl4
 refine sp rfl (px_sliceTo (h := k) rfl rfl (by omega) Tryz.underlying26 Tryz.sizeOf3 f10.sv (by omega)) ?_
 refine av rfl rfl (wl_nil (q_n (k9 _ _ ?_)))
 refine sx_sub (Sub.c 2 rfl .nil) ?_
 refine sx_retc ?_
 refine sx_ret1 Tryz.results113 rfl ?_
 have hd := trim_done hz hk hv (by first | exact .inl (by omega) | exact .inr (by rw [getD_take (by omega)]; assumption))
 rw [← hd]
 exact ⟨_, rfl, (Own.takeI f10 (h := k) (by omega)), cwl4⟩

theorem c_l02TrimS {w : World} {va : Value} {lva uva : Nat} {zs : List Int} (hva : Sl w lva uva va (zs)) (hz : Lm zs) (h63 : zs.length ≤ 1000000) :
  Ret Tryz.prog 113 [va] w fun v w' => ∃ s, v = s ∧ Sl w' (lva) (uva) s (dg (vl zs)) ∧ Chg 0 0 w w' := by
 refine sx_enter Tryz.func113 rfl Tryz.ntmps113 (nbl rfl) ?_
 refine sx_seq fun K1 k1 => sx_region ?_
 refine av rfl rfl (wl_nil (q_n (k1 _ _ ?_)))
 refine sx_seq fun K2 k2 => sx_region ?_
 refine mv rfl rfl (sp rfl (px_len rfl Tryz.underlying26 hva) ?_)
 refine av rfl rfl (wl_nil (q_n (k2 _ _ ?_)))
 refine sx_seq fun K3 k3 => ?_
 refine sx_block ?_
 refine sx_loop (fun mm aa w' => ∃ (k : Nat), Agr 21 [(0, va), (3, .int .i64 ↑k)] aa ∧ Chg 0 0 w w' ∧ (mm = k) ∧ (k ≤ zs.length) ∧ (vl (zs.take k) = vl zs)) (_) (fun a ha => ⟨zs.length, ha.sub (Sub.c 0 rfl (.c 3 (look_int (t := 3) rfl (by first | omega | simp)) .nil)), Chg.refl _ _ _, rfl, by omega, vl_take_all zs⟩) ?_
 rintro mm aa wl4 ⟨k, hAwl4, cwl4, hm, hk, hv⟩
 refine (show cw Tryz.prog 21 _ _ _ wl4 from ?_) aa hAwl4
 clear hAwl4
 have zwl4 := cwl4.size
 refine sx_seq fun K5 k5 => ?_
 refine sx_seq fun K6 k6 => sx_region ?_
 refine mv rfl rfl (sp rfl (px_gt rfl rfl) ?_)
 refine mv rfl rfl ?_
 refine sx_tmpP (t := 8) rfl (fun h17 => ?_) (fun h17 => ?_)
 ·
  refine sx_guardT rfl rfl rfl ?_
  refine mv rfl rfl ?_
  refine sx_guardT rfl rfl rfl ?_
  refine mv rfl rfl ?_
  refine sx_guardT rfl rfl rfl ?_
  refine sp rfl (px_sub rfl rfl (by omega)) ?_
  refine sx_guardT rfl rfl rfl ?_
  have f7 := hva.ext cwl4
  refine sp rfl (px_index1 (j := (k - 1)) rfl rfl (by omega) Tryz.underlying26 Tryz.sizeOf3 f7 (by omega)) ?_
  refine sx_guardT rfl rfl rfl ?_
  refine sp rfl (px_load rfl (f7.load1 (at_int (by omega)) Tryz.isAgg3)) ?_
  refine sx_guardT rfl rfl rfl ?_
  refine sp rfl (px_eq rfl rfl) ?_
  refine sp rfl (px_pick rfl rfl) ?_
  refine wl_nil (q_n (k6 _ _ ?_))
  refine sx_condP rfl (fun h17x1 => ?_) (fun h17x1 => ?_)
  ·
   refine sx_skip ?_
   refine q_n (k5 _ _ ?_)
   refine sx_block ?_
   refine sx_region ?_
   refine mv rfl rfl (sp rfl (px_sub rfl rfl (by omega)) ?_)
   refine av rfl rfl (wl_nil ?_)
   exact q_bn (fun a ha => ⟨_, by omega, (k - 1), ha.sub (Sub.c 0 rfl (.c 3 (look_int (t := 3) rfl (by first | omega | simp)) .nil)), cwl4, rfl, by omega, trim_step (by omega) hk (by rw [getD_take (by omega)]; exact h17x1) hv⟩)
  refine sx_exit ?_
  refine q_e (q_e (q_bx (q_n (k3 _ _ ?_))))
  refine sx_seq fun K8 k8 => sx_region ?_
  refine mv rfl rfl (mv rfl rfl (sp rfl (px_sliceTo (h := k) rfl rfl (by omega) Tryz.underlying26 Tryz.sizeOf3 f7 (by omega)) ?_))
  refine av rfl rfl (wl_nil (q_n (k8 _ _ ?_)))
  refine sx_sub (Sub.c 2 rfl .nil) ?_
  refine sx_retc ?_
  refine sx_ret1 Tryz.results113 rfl ?_
  have hd := trim_done hz hk hv (by first | exact .inl (by omega) | exact .inr (by rw [getD_take (by omega)]; assumption))
  rw [← hd]
  exact ⟨_, rfl, (Sv.takeI f7 (h := k) (by omega)), cwl4⟩
 refine sx_guardF rfl rfl rfl rfl rfl rfl ?_
 refine sx_guardF rfl rfl rfl rfl rfl rfl ?_
 refine sx_guardF rfl rfl rfl rfl rfl rfl ?_
 refine sx_guardF rfl rfl rfl rfl rfl rfl ?_
 refine sx_guardF rfl rfl rfl rfl rfl rfl ?_
 refine sx_guardF rfl rfl rfl rfl rfl rfl ?_
 refine sp rfl (px_pick rfl rfl) ?_
 refine wl_nil (q_n (k6 _ _ ?_))
 refine sx_condF rfl ?_
 refine sx_exit ?_
 refine q_e (q_e (q_bx (q_n (k3 _ _ ?_))))
 refine sx_seq fun K9 k9 => sx_region ?_
 refine mv rfl rfl (mv rfl rfl ?_)
 have f10 := hva.ext cwl4
 refine sp rfl (px_sliceTo (h := k) rfl rfl (by omega) Tryz.underlying26 Tryz.sizeOf3 f10 (by omega)) ?_
 refine av rfl rfl (wl_nil (q_n (k9 _ _ ?_)))
 refine sx_sub (Sub.c 2 rfl .nil) ?_
 refine sx_retc ?_
 refine sx_ret1 Tryz.results113 rfl ?_
 have hd := trim_done hz hk hv (by first | exact .inl (by omega) | exact .inr (by rw [getD_take (by omega)]; assumption))
 rw [← hd]
 exact ⟨_, rfl, (Sv.takeI f10 (h := k) (by omega)), cwl4⟩

theorem c_l02TrimD {w : World} {va : Value} {lva uva : Nat} {m : Nat} (hva : Sl w lva uva va (dg m)) (h63 : (dg m).length ≤ 1000000) :
  Ret Tryz.prog 113 [va] w fun v w' => ∃ s, v = s ∧ Sl w' (lva) (uva) s (dg m) ∧ Chg 0 0 w w' := by
 simpa only [vl_dg] using c_l02TrimS hva (Lm_dg m) h63

theorem c_l02Cap {w : World} {va : Value} {lva uva : Nat} {m : Nat} (hva : Sl w lva uva va (dg m)) (h63 : (dg m).length ≤ 1000000) :
  Ret Tryz.prog 108 [va] w fun v w' => ∃ s, v = s ∧ Sl w' (lva) (uva) s (dg (capN m)) ∧ Chg 0 0 w w' := by
 refine sx_enter Tryz.func108 rfl Tryz.ntmps108 (nbl rfl) ?_
 refine sx_seq fun K1 k1 => sx_region ?_
 refine av rfl rfl (wl_nil (q_n (k1 _ _ ?_)))
 refine sx_seq fun K2 k2 => sx_region ?_
 refine mv rfl rfl (sx_call rfl rfl Tryz.call113 (c_l02TrimD hva (by omega)) (fun v3 w3 p3 => ?_))
 obtain ⟨s3, rfl, os_3, c3⟩ := p3
 have zw3 := c3.size
 refine av rfl rfl (wl_nil (q_n (k2 _ _ ?_)))
 refine sx_seq fun K4 k4 => ?_
 refine sx_seq fun K5 k5 => sx_region ?_
 refine mv rfl rfl (sp rfl (px_len rfl Tryz.underlying26 os_3) ?_)
 refine sp rfl (px_gt rfl rfl) ?_
 refine wl_nil (q_n (k5 _ _ ?_))
 refine sx_condP rfl (fun h25 => ?_) (fun h25 => ?_)
 ·
  refine sx_seq fun K6 k6 => sx_region ?_
  refine av rfl rfl (wl_nil (q_n (k6 _ _ ?_)))
  refine sx_retc ?_
  refine q_r (sx_ret1 Tryz.results108 rfl ?_)
  rw [capN_no (by omega), dg_zero]
  exact ⟨_, rfl, Sv.nil _ _ _ _, c3⟩
 refine sx_skip ?_
 refine q_n (k4 _ _ ?_)
 refine sx_seq fun K7 k7 => sx_region ?_
 refine mv rfl rfl (av rfl rfl (wl_nil (q_n (k7 _ _ ?_))))
 refine sx_retc ?_
 refine sx_ret1 Tryz.results108 rfl ?_
 rw [capN_ok (by omega)]
 exact ⟨_, rfl, (Sv.mono os_3 (by omega) (by omega)), c3⟩

theorem c_l04Make {w : World} {n : Bool} {va : Value} {lva uva : Nat} {m : Nat} (hva : Sl w lva uva va (dg m)) (h63 : (dg m).length ≤ 1000000) :
  Ret Tryz.prog 70 [.bool n, va] w fun v w' => ∃ s, v = .agg #[.bool (ng (capI n m)), s] ∧ OwnI w' w.heap.size w'.heap.size s intT (dg (capI n m).natAbs) ∧ Chg 0 0 w w' := by
 have hva0 := hva.fit
 have hcap : (dg (capN m)).length ≤ 50 := by unfold capN; split; assumption; rw [dg_zero]; simp
 refine sx_enter Tryz.func70 rfl Tryz.ntmps70 (nbl rfl) ?_
 refine sx_seq fun K1 k1 => sx_region ?_
 refine sx_alloc [.bool false, (.slice none 0 0)] rfl Tryz.zeroValue28 rfl (fun b2 w3 eb2 sb2 fb2 cb2 => ?_)
 have zw3 := cb2.size
 refine wl_nil (q_n (k1 _ _ ?_))
 refine sx_seq fun K4 k4 => sx_region ?_
 refine mv rfl rfl ?_
 have f5 := hva0.ext cb2
 refine sx_call rfl rfl Tryz.call108 (c_l02Cap f5 (by omega)) (fun v6 w6 p6 => ?_)
 obtain ⟨s6, rfl, os_6, c6⟩ := p6
 have zw6 := c6.size
 refine av rfl rfl (wl_nil (q_n (k4 _ _ ?_)))
 refine sx_seq fun K7 k7 => sx_region ?_
 refine mv rfl rfl (mv rfl rfl ?_)
 refine sx_tmpB (t := 9) rfl (fun h10 => ?_) (fun h10 => ?_)
 ·
  refine sx_guardT rfl rfl rfl ?_
  refine mv rfl rfl ?_
  refine sx_guardT rfl rfl rfl ?_
  refine sp rfl (px_len rfl Tryz.underlying26 os_6) ?_
  refine sx_guardT rfl rfl rfl ?_
  refine sp rfl (px_gt rfl rfl) ?_
  refine sp rfl (px_pick rfl rfl) ?_
  refine sx_lit0 rfl xelt26 (fun s8 ws8 ss8 fs8 cs8 => ?_)
  have zws8 := cs8.size
  refine mv rfl rfl ?_
  have f10 := os_6.ext cs8
  refine sx_append rfl xelt26 rfl rfl fs8 f10 one_int (by omega) (by first | omega | (simp only [List.length_nil]; omega)) (by unfold maxLen; first | omega | (simp only [List.length_nil]; omega)) (fun a9 w9 fw9 cw9 => ?_)
  have nw9 := Own.norm (f := (Value.int .i64)) (zs := dg (capN m)) fw9
  have zw9 := cw9.size
  refine sp rfl (px_build rfl (xbld28x0x1 rfl nw9.one _)) ?_
  have f13 := (fb2.ext c6).ext cs8
  have f14 := f13.chg cw9 (by omega)
  refine sx_store (vs := [.bool (decide ((0 : Int) < ↑((dg (capN m)).length))), a9]) rfl rfl f14 rfl Tryz.sizeOf28 (nbl rfl) (one_cons rfl (one_cons nw9.one one_nil)) (fun w11 sw11 fw11 cw11 => ?_)
  have zw11 := cw11.size
  have gw11 : Blk w11 b2 [.bool (decide ((0 : Int) < ↑((dg (capN m)).length))), a9] 28 := fw11
  refine wl_nil (q_n (k7 _ _ ?_))
  refine sx_sub (Sub.c 4 rfl .nil) ?_
  refine sx_retc ?_
  refine sx_ret1 Tryz.results70 ⟨_, rfl, gw11.loadA (vs := [.bool (decide ((0 : Int) < ↑((dg (capN m)).length))), a9]) (look_lit rfl) Tryz.isAgg28 Tryz.sizeOf28⟩ ?_
  have hh := cap_sg n m
  rw [← hh.1, ← hh.2]
  have q15 := Chg.step (l := 0) (h := 0) (Chg.zero (l := 0) (h := 0) ((cb2.t c6).t cs8)) cw9 (by omega)
  have q16 := Chg.step (l := 0) (h := 0) q15 cw11 (by omega)
  have f17 := nw9.chg cw11 (by omega)
  exact ⟨_, by simp [nz, h10], (Own.mono f17 (by omega) (by omega)), q16⟩
 refine sx_guardF rfl rfl rfl rfl rfl rfl ?_
 refine sx_guardF rfl rfl rfl rfl rfl rfl ?_
 refine sx_guardF rfl rfl rfl rfl rfl rfl ?_
 refine sp rfl (px_pick rfl rfl) ?_
 refine sx_lit0 rfl xelt26 (fun s18 ws18 ss18 fs18 cs18 => ?_)
 have zws18 := cs18.size
 refine mv rfl rfl ?_
 have f20 := os_6.ext cs18
 refine sx_append rfl xelt26 rfl rfl fs18 f20 one_int (by omega) (by first | omega | (simp only [List.length_nil]; omega)) (by unfold maxLen; first | omega | (simp only [List.length_nil]; omega)) (fun a19 w19 fw19 cw19 => ?_)
 have nw19 := Own.norm (f := (Value.int .i64)) (zs := dg (capN m)) fw19
 have zw19 := cw19.size
 refine sp rfl (px_build rfl (xbld28x0x1 rfl nw19.one _)) ?_
 have f23 := (fb2.ext c6).ext cs18
 have f24 := f23.chg cw19 (by omega)
 refine sx_store (vs := [.bool false, a19]) rfl rfl f24 rfl Tryz.sizeOf28 (nbl rfl) (one_cons rfl (one_cons nw19.one one_nil)) (fun w21 sw21 fw21 cw21 => ?_)
 have zw21 := cw21.size
 have gw21 : Blk w21 b2 [.bool false, a19] 28 := fw21
 refine wl_nil (q_n (k7 _ _ ?_))
 refine sx_sub (Sub.c 4 rfl .nil) ?_
 refine sx_retc ?_
 refine sx_ret1 Tryz.results70 ⟨_, rfl, gw21.loadA (vs := [.bool false, a19]) (look_lit rfl) Tryz.isAgg28 Tryz.sizeOf28⟩ ?_
 have hh := cap_sg n m
 rw [← hh.1, ← hh.2]
 have q25 := Chg.step (l := 0) (h := 0) (Chg.zero (l := 0) (h := 0) ((cb2.t c6).t cs18)) cw19 (by omega)
 have q26 := Chg.step (l := 0) (h := 0) q25 cw21 (by omega)
 have f27 := nw19.chg cw21 (by omega)
 exact ⟨_, by simp [nz, h10], (Own.mono f27 (by omega) (by omega)), q26⟩

theorem c_l04MakeMin {w : World} {n : Bool} {va : Value} {lva uva : Nat} {zs : List Int} (hva : Sl w lva uva va (zs)) (hz : zs = dg (-9223372036854775808 : Int).natAbs) :
  Ret Tryz.prog 70 [.bool n, va] w fun v w' => ∃ s, v = .agg #[.bool (ng (capI n (-9223372036854775808 : Int).natAbs)), s] ∧ OwnI w' w.heap.size w'.heap.size s intT (dg (capI n (-9223372036854775808 : Int).natAbs).natAbs) ∧ Chg 0 0 w w' := by
 subst hz; exact c_l04Make hva (by rw [dg_min]; simp)

theorem c_sNatOf {w : World} {n : Int} (hn : 0 ≤ n ∧ n ≤ 9223372036854775807) :
  Ret Tryz.prog 71 [.int .i64 n] w fun v w' => ∃ s, v = s ∧ OwnI w' w.heap.size w'.heap.size s intT (dg (n).toNat) ∧ Chg 0 0 w w' := by
 have l0 := len_u64 (n := n) (by omega)
 refine sx_enter Tryz.func71 rfl Tryz.ntmps71 (nbl rfl) ?_
 refine sx_seq fun K1 k1 => sx_region ?_
 refine av rfl rfl (wl_nil (q_n (k1 _ _ ?_)))
 refine sx_seq fun K2 k2 => sx_region ?_
 refine sx_lit0 rfl xelt26 (fun s3 ws3 ss3 fs3 cs3 => ?_)
 have zws3 := cs3.size
 refine av rfl rfl (wl_nil (q_n (k2 _ _ ?_)))
 refine sx_seq fun K4 k4 => ?_
 refine sx_block ?_
 refine sx_loop (fun mm aa w' => ∃ (s : Value) (os : List Int) (m : Int), Agr 15 [(0, .int .i64 m), (3, s)] aa ∧ Chg w.heap.size ws3.heap.size ws3 w' ∧ Own w' w.heap.size w'.heap.size s intT os.length 1 (os.map (Value.int .i64)) ∧ (mm = m.toNat) ∧ (Lm os) ∧ (0 ≤ m ∧ m ≤ n) ∧ (vl os + Bs ^ os.length * m.toNat = n.toNat) ∧ (os.length + (dg m.toNat).length = (dg n.toNat).length) ∧ (os.length = 0 ∨ Bs ^ (os.length - 1) ≤ n.toNat)) (_) (fun a ha => ⟨s3, [], n, ha.sub (Sub.c 0 (look_int (t := 0) rfl (by first | omega | simp)) (.c 3 rfl .nil)), Chg.refl _ _ _, (fs3.mono (by omega) (by omega)), rfl, Lm.nil, by omega, by simp [vl], by simp, .inl rfl⟩) ?_
 rintro mm aa wl5 ⟨s, os, m, hAwl5, cwl5, hs_s, hm, hlm, hb, hv, hln, hl⟩
 refine (show cw Tryz.prog 15 _ _ _ wl5 from ?_) aa hAwl5
 clear hAwl5
 have zwl5 := cwl5.size
 refine sx_seq fun K6 k6 => ?_
 refine sx_seq fun K7 k7 => sx_region ?_
 refine mv rfl rfl (sp rfl (px_gt rfl rfl) ?_)
 refine wl_nil (q_n (k7 _ _ ?_))
 refine sx_condP rfl (fun h34 => ?_) (fun h34 => ?_)
 ·
  refine sx_skip ?_
  refine q_n (k6 _ _ ?_)
  refine sx_block ?_
  refine sx_seq fun K8 k8 => sx_region ?_
  refine mv rfl rfl (mv rfl rfl (sp rfl (px_rem rfl rfl (by omega) (by omega)) ?_))
  refine sx_lit1 rfl xelt26 rfl rfl (fun s9 ws9 ss9 fs9 cs9 => ?_)
  have ns9 := Own.norm (f := (Value.int .i64)) (zs := [m % 1000000000]) fs9
  have zws9 := cs9.size
  have f11 := hs_s.ext cs9
  refine sx_append rfl xelt26 rfl rfl f11 ns9.sv one_int (by omega) (by simp only [List.length_cons, List.length_nil]; omega) (by unfold maxLen; simp only [List.length_cons, List.length_nil]; omega) (fun a10 w10 fw10 cw10 => ?_)
  have nw10 := Own.app (f := (Value.int .i64)) (a := os) (b := [m % 1000000000]) fw10
  have zw10 := cw10.size
  refine av rfl rfl (wl_nil (q_n (k8 _ _ ?_)))
  refine sx_region ?_
  refine mv rfl rfl (sp rfl (px_quo rfl rfl (by omega) (by omega) (by omega)) ?_)
  refine av rfl rfl (wl_nil ?_)
  have q12 := Chg.step (l := w.heap.size) (h := ws3.heap.size) cwl5 cs9 (by omega)
  have q13 := Chg.step (l := w.heap.size) (h := ws3.heap.size) q12 cw10 (by omega)
  have hmd := mod_bd (s := m) (by omega)
  have hm0 : m / 1000000000 < m := by omega
  exact q_bn (fun a ha => ⟨_, by omega, a10, (os ++ ([m % 1000000000])), (m / 1000000000), ha.sub (Sub.c 0 (look_int (t := 0) rfl (by first | omega | simp)) (.c 3 rfl .nil)), q13, (nw10.mono (by omega) (by omega)), rfl, hlm.append (Lm.single hmd.1 hmd.2), by omega, of_stepI (by omega) hv, by have h9 := of_ln (m := m) (by omega); simp only [List.length_append, List.length_singleton]; omega, .inr (of_len (by omega) hv)⟩)
 refine sx_exit ?_
 refine q_e (q_e (q_bx (q_n (k4 _ _ ?_))))
 refine sx_seq fun K14 k14 => sx_region ?_
 refine mv rfl rfl (av rfl rfl (wl_nil (q_n (k14 _ _ ?_))))
 refine sx_retc ?_
 refine sx_ret1 Tryz.results71 rfl ?_
 have hm0 : m = 0 := by omega
 subst hm0
 have hd : os = dg n.toNat := dg_of hlm (by simpa using hv) hl
 subst hd
 have q15 := Chg.step (l := 0) (h := 0) (Chg.zero (l := 0) (h := 0) cs3) cwl5 (by omega)
 exact ⟨_, rfl, (Own.mono hs_s (by omega) (by omega)), q15⟩

theorem c_sIntOf {w : World} {n : Int} (hn : -9223372036854775808 ≤ n ∧ n ≤ 9223372036854775807) :
  Ret Tryz.prog 30 [.int .i64 n] w fun v w' => ∃ s, v = .agg #[.bool (ng n), s] ∧ OwnI w' w.heap.size w'.heap.size s intT (dg (n).natAbs) ∧ Chg 0 0 w w' := by
 refine sx_enter Tryz.func30 rfl Tryz.ntmps30 (nbl rfl) ?_
 refine sx_seq fun K1 k1 => sx_region ?_
 refine sx_alloc [.bool false, (.slice none 0 0)] rfl Tryz.zeroValue28 rfl (fun b2 w3 eb2 sb2 fb2 cb2 => ?_)
 have zw3 := cb2.size
 refine wl_nil (q_n (k1 _ _ ?_))
 refine sx_seq fun K4 k4 => ?_
 refine sx_seq fun K5 k5 => sx_region ?_
 refine mv rfl rfl (sp rfl (px_eq rfl rfl) ?_)
 refine wl_nil (q_n (k5 _ _ ?_))
 refine sx_condP rfl (fun h15 => ?_) (fun h15 => ?_)
 ·
  subst h15
  refine sx_seq fun K6 k6 => sx_region ?_
  refine sx_lit3 rfl xelt26 rfl rfl rfl rfl rfl rfl (fun s7 ws7 ss7 fs7 cs7 => ?_)
  have ns7 := Own.norm (f := (Value.int .i64)) (zs := [854775808, 223372036, 9]) fs7
  have zws7 := cs7.size
  refine sx_call rfl rfl Tryz.call70 (c_l04MakeMin ns7.sv (dg_min.symm)) (fun v8 w8 p8 => ?_)
  obtain ⟨s8, rfl, os_8, c8⟩ := p8
  have zw8 := c8.size
  have f10 := fb2.ext cs7
  have f11 := f10.ext c8
  refine sx_store (vs := [.bool (ng (capI true (-9223372036854775808 : Int).natAbs)), s8]) rfl rfl f11 rfl Tryz.sizeOf28 (nbl rfl) (one_cons rfl (one_cons os_8.one one_nil)) (fun w9 sw9 fw9 cw9 => ?_)
  have zw9 := cw9.size
  have gw9 : Blk w9 b2 [.bool (ng (capI true (-9223372036854775808 : Int).natAbs)), s8] 28 := fw9
  refine wl_nil (q_n (k6 _ _ ?_))
  refine sx_retc ?_
  refine q_r (sx_ret1 Tryz.results30 ⟨_, rfl, gw9.loadA (vs := [.bool (ng (capI true (-9223372036854775808 : Int).natAbs)), s8]) (look_lit rfl) Tryz.isAgg28 Tryz.sizeOf28⟩ ?_)
  have e : capI true (-9223372036854775808 : Int).natAbs = -9223372036854775808 := capI_min
  have f12 := os_8.chg cw9 (by omega)
  have hr := f12
  rw [e] at hr
  have q13 := Chg.step (l := 0) (h := 0) (Chg.zero (l := 0) (h := 0) ((cb2.t cs7).t c8)) cw9 (by omega)
  exact ⟨_, by rw [e], hr.mono (by omega) (by omega), q13⟩
 refine sx_skip ?_
 refine q_n (k4 _ _ ?_)
 refine sx_seq fun K14 k14 => ?_
 refine sx_seq fun K15 k15 => sx_region ?_
 refine mv rfl rfl (sp rfl (px_lt rfl rfl) ?_)
 refine wl_nil (q_n (k15 _ _ ?_))
 refine sx_condP rfl (fun h18 => ?_) (fun h18 => ?_)
 ·
  refine sx_seq fun K16 k16 => sx_region ?_
  refine mv rfl rfl (sp rfl (px_neg rfl (by omega)) ?_)
  refine sx_call rfl rfl Tryz.call71 (c_sNatOf (by omega)) (fun v17 w17 p17 => ?_)
  obtain ⟨s17, rfl, os_17, c17⟩ := p17
  have zw17 := c17.size
  refine sx_call rfl rfl Tryz.call70 (c_l04Make os_17.sv (by first | (have h9 := len_u64 (n := -n) (by omega); omega) | (have h9 := len_u64 (n := n) (by omega); omega))) (fun v18 w18 p18 => ?_)
  obtain ⟨s18, rfl, os_18, c18⟩ := p18
  have zw18 := c18.size
  have f21 := (fb2.ext c17).ext c18
  refine sx_store (vs := [.bool (ng (capI true (((-n)).toNat))), s18]) rfl rfl f21 rfl Tryz.sizeOf28 (nbl rfl) (one_cons rfl (one_cons os_18.one one_nil)) (fun w19 sw19 fw19 cw19 => ?_)
  have zw19 := cw19.size
  have gw19 : Blk w19 b2 [.bool (ng (capI true (((-n)).toNat))), s18] 28 := fw19
  refine wl_nil (q_n (k16 _ _ ?_))
  refine sx_retc ?_
  refine q_r (sx_ret1 Tryz.results30 ⟨_, rfl, gw19.loadA (vs := [.bool (ng (capI true (((-n)).toNat))), s18]) (look_lit rfl) Tryz.isAgg28 Tryz.sizeOf28⟩ ?_)
  have e : capI true (-n).toNat = n := capI_neg (by omega)
  have f22 := os_18.chg cw19 (by omega)
  have hr := f22
  rw [e] at hr
  have q23 := Chg.step (l := 0) (h := 0) (Chg.zero (l := 0) (h := 0) ((cb2.t c17).t c18)) cw19 (by omega)
  exact ⟨_, by rw [e], hr.mono (by omega) (by omega), q23⟩
 refine sx_skip ?_
 refine q_n (k14 _ _ ?_)
 refine sx_seq fun K24 k24 => sx_region ?_
 refine mv rfl rfl (sx_call rfl rfl Tryz.call71 (c_sNatOf (by omega)) (fun v25 w25 p25 => ?_))
 obtain ⟨s25, rfl, os_25, c25⟩ := p25
 have zw25 := c25.size
 refine sx_call rfl rfl Tryz.call70 (c_l04Make os_25.sv (by first | (have h9 := len_u64 (n := -n) (by omega); omega) | (have h9 := len_u64 (n := n) (by omega); omega))) (fun v26 w26 p26 => ?_)
 obtain ⟨s26, rfl, os_26, c26⟩ := p26
 have zw26 := c26.size
 have f29 := (fb2.ext c25).ext c26
 refine sx_store (vs := [.bool (ng (capI false ((n).toNat))), s26]) rfl rfl f29 rfl Tryz.sizeOf28 (nbl rfl) (one_cons rfl (one_cons os_26.one one_nil)) (fun w27 sw27 fw27 cw27 => ?_)
 have zw27 := cw27.size
 have gw27 : Blk w27 b2 [.bool (ng (capI false ((n).toNat))), s26] 28 := fw27
 refine wl_nil (q_n (k24 _ _ ?_))
 refine sx_retc ?_
 refine sx_ret1 Tryz.results30 ⟨_, rfl, gw27.loadA (vs := [.bool (ng (capI false ((n).toNat))), s26]) (look_lit rfl) Tryz.isAgg28 Tryz.sizeOf28⟩ ?_
 have e : capI false n.toNat = n := capI_pos (by omega)
 have f30 := os_26.chg cw27 (by omega)
 have hr := f30
 rw [e] at hr
 have q31 := Chg.step (l := 0) (h := 0) (Chg.zero (l := 0) (h := 0) ((cb2.t c25).t c26)) cw27 (by omega)
 exact ⟨_, by rw [e], hr.mono (by omega) (by omega), q31⟩

theorem c_l03Small {w : World} {va : Value} {lva uva : Nat} {m : Nat} {d : Int} (hva : Sl w lva uva va (dg m)) (hbm : (dg m).length ≤ 1000) (hd : 1 ≤ d ∧ d ≤ 999999999) :
  Ret Tryz.prog 140 [va, .int .i64 d] w fun v w' => ∃ s, v = .tuple #[s, .int .i64 (((m % (d).toNat : Nat) : Int))] ∧ OwnI w' w.heap.size w'.heap.size s intT (dg (m / (d).toNat)) ∧ Chg 0 0 w w' := by
 have hva0 := hva.fit
 refine sx_enter Tryz.func140 rfl Tryz.ntmps140 (nbl rfl) ?_
 refine sx_seq fun K1 k1 => sx_region ?_
 refine av rfl rfl (av rfl rfl (wl_nil (q_n (k1 _ _ ?_))))
 refine sx_seq fun K2 k2 => sx_region ?_
 refine mv rfl rfl (sp rfl (px_len rfl Tryz.underlying26 hva0) ?_)
 refine sx_make (c := (dg m).length) rfl xelt26 (rfl) (rfl) (by omega) (by unfold maxLen; omega) (fun s3 ws3 fs3 cs3 ls3 => ?_)
 have ns3 := fs3.made
 have zws3 := cs3.size
 refine av rfl rfl (wl_nil (q_n (k2 _ _ ?_)))
 refine sx_seq fun K4 k4 => sx_region ?_
 refine av rfl rfl (wl_nil (q_n (k4 _ _ ?_)))
 refine sx_seq fun K5 k5 => ?_
 refine sx_seq fun K6 k6 => sx_region ?_
 refine mv rfl rfl ?_
 have f7 := hva0.ext cs3
 refine sp rfl (px_len rfl Tryz.underlying26 f7) ?_
 refine sp rfl (px_sub rfl rfl (by omega)) ?_
 refine av rfl rfl (wl_nil (q_n (k6 _ _ ?_)))
 refine sx_block ?_
 refine sx_loop (fun mm aa w' => ∃ (k : Nat) (os : List Int) (r : Int), Agr 39 [(0, va), (1, .int .i64 d), (6, s3), (7, .int .i64 r), (8, .int .i64 (↑k - 1))] aa ∧ Chg w.heap.size ws3.heap.size ws3 w' ∧ Own w' w.heap.size ws3.heap.size s3 intT os.length 1 (os.map (Value.int .i64)) ∧ (mm = k) ∧ (k ≤ (dg m).length) ∧ (os.length = (dg m).length) ∧ (Lm os) ∧ (0 ≤ r ∧ r < d) ∧ (vl ((dg m).drop k) = d.toNat * vl (os.drop k) + r.toNat)) (_) (fun a ha => ⟨(dg m).length, List.replicate (dg m).length 0, 0, ha.sub (Sub.c 0 rfl (.c 1 rfl (.c 6 rfl (.c 7 (look_int (t := 7) rfl (by first | omega | simp)) (.c 8 (look_int (t := 8) rfl (by first | omega | simp)) .nil))))), Chg.refl _ _ _, ns3, rfl, by omega, by simp, Lm.replicate _, by omega, by simp [vl]⟩) ?_
 rintro mm aa wl8 ⟨k, os, r, hAwl8, cwl8, hs_s3, hm, hk, hos, hlm, hr, hv⟩
 refine (show cw Tryz.prog 39 _ _ _ wl8 from ?_) aa hAwl8
 clear hAwl8
 have zwl8 := cwl8.size
 have am := (Lm_dg m).getD (k - 1)
 have hq := small_q hr.1 hr.2 am.1 am.2
 refine sx_seq fun K9 k9 => ?_
 refine sx_seq fun K10 k10 => sx_region ?_
 refine mv rfl rfl (sp rfl (px_ge rfl rfl) ?_)
 refine wl_nil (q_n (k10 _ _ ?_))
 refine sx_condP rfl (fun h8 => ?_) (fun h8 => ?_)
 ·
  refine sx_skip ?_
  refine q_n (k9 _ _ ?_)
  refine sx_seq fun K11 k11 => ?_
  refine sx_block ?_
  refine sx_seq fun K12 k12 => sx_region ?_
  refine mv rfl rfl (sp rfl (px_mul rfl rfl (by omega)) ?_)
  refine mv rfl rfl (mv rfl rfl ?_)
  have f13 := f7.chg cwl8 (by omega)
  refine sp rfl (px_index1 (j := (k - 1)) rfl rfl (by omega) Tryz.underlying26 Tryz.sizeOf3 f13 (by omega)) ?_
  refine sp rfl (px_load rfl (f13.load1 (at_int (by omega)) Tryz.isAgg3)) ?_
  refine sp rfl (px_add rfl rfl (by omega)) ?_
  refine av rfl rfl (wl_nil (q_n (k12 _ _ ?_)))
  refine sx_sub (Sub.c 0 rfl (.c 1 rfl (.c 6 rfl (.c 7 rfl (.c 8 rfl (.c 9 rfl .nil)))))) ?_
  refine sx_seq fun K14 k14 => sx_region ?_
  refine mv rfl rfl (mv rfl rfl (mv rfl rfl (mv rfl rfl (sp rfl (px_quo rfl rfl (by omega) (by omega) (by omega)) ?_))))
  refine sp rfl (px_index1 (j := (k - 1)) rfl rfl (by omega) Tryz.underlying26 Tryz.sizeOf3 hs_s3.sv (by omega)) ?_
  refine sx_storeO rfl rfl hs_s3 (by first | omega | (simp only [List.length_map]; omega)) Tryz.sizeOf3 rfl (fun w15 sw15 fw15 cw15 => ?_)
  have zw15 := cw15.size
  have nw15 := fw15.set
  refine wl_nil (q_n (k14 _ _ ?_))
  refine sx_region ?_
  refine mv rfl rfl (mv rfl rfl (sp rfl (px_rem rfl rfl (by omega) (by omega)) ?_))
  refine av rfl rfl (wl_nil ?_)
  refine q_bn (q_n (k11 _ _ ?_))
  refine sx_sub (Sub.c 0 rfl (.c 1 rfl (.c 6 rfl (.c 7 rfl (.c 8 rfl .nil))))) ?_
  refine sx_region ?_
  refine mv rfl rfl (sp rfl (px_sub rfl rfl (by omega)) ?_)
  refine av rfl rfl (wl_nil ?_)
  have q16 := Chg.step (l := w.heap.size) (h := ws3.heap.size) cwl8 cw15 (by omega)
  have hst := small_step (X := ((r * 1000000000) + ((dg m).getD (k - 1) 0))) (by omega) (by omega) (by omega) hr am rfl hv
  exact fun a ha => ⟨_, by omega, (k - 1), ((os).set (k - 1) (((r * 1000000000) + ((dg m).getD (k - 1) 0)) / d)), (((r * 1000000000) + ((dg m).getD (k - 1) 0)) % d), ha.sub (Sub.c 0 rfl (.c 1 rfl (.c 6 rfl (.c 7 (look_int (t := 7) rfl (by first | omega | simp)) (.c 8 (look_int (t := 8) rfl (by first | omega | simp)) .nil))))), q16, (nw15.mono (by omega) (by omega)), rfl, by omega, by simpa using hos, hlm.set _ hq.1 hq.2.1, hq.2.2, hst⟩
 refine sx_exit ?_
 refine q_e (q_e (q_bx (q_n (k5 _ _ ?_))))
 refine sx_seq fun K17 k17 => sx_region ?_
 refine mv rfl rfl (sx_call rfl rfl Tryz.call113 (c_l02Trim hs_s3 (by assumption) (by first | omega | (simp only [List.length_append, List.length_set, List.length_replicate, List.length_cons, List.length_nil] at *; omega))) (fun v18 w18 p18 => ?_))
 obtain ⟨s18, rfl, os_18, c18⟩ := p18
 have zw18 := c18.size
 refine mv rfl rfl (av rfl rfl (av rfl rfl (wl_nil (q_n (k17 _ _ ?_)))))
 refine sx_retc ?_
 refine sx_ret2 Tryz.results140 rfl rfl ?_
 have e0 : k = 0 := by omega
 subst e0
 have he := div_end (m := m) (d := d.toNat) (v := vl os) (r := r.toNat) (by rw [List.drop_zero, List.drop_zero, vl_dg] at hv; exact hv) (show r.toNat < d.toNat by omega)
 have hr2 := os_18
 rw [he.1] at hr2
 have er : r = ((m % d.toNat : Nat) : Int) := by omega
 have q19 := Chg.step (l := 0) (h := 0) (Chg.zero (l := 0) (h := 0) cs3) cwl8 (by omega)
 have q20 := Chg.step (l := 0) (h := 0) q19 c18 (by omega)
 exact ⟨_, by rw [er], hr2.mono (by omega) (by omega), q20⟩

theorem c_l02Mul {w : World} {va : Value} {lva uva : Nat} {m : Nat} {vb : Value} {lvb uvb : Nat} {n : Nat} (hva : Sl w lva uva va (dg m)) (hvb : Sl w lvb uvb vb (dg n)) (hbm : (dg m).length ≤ 1000) (hbn : (dg n).length ≤ 1000) :
  Ret Tryz.prog 76 [va, vb] w fun v w' => ∃ s, v = s ∧ Sl w' (w.heap.size) (w'.heap.size) s (dg (m * n)) ∧ Chg 0 0 w w' := by
 have hva0 := hva.fit
 have hvb0 := hvb.fit
 refine sx_enter Tryz.func76 rfl Tryz.ntmps76 (nbl rfl) ?_
 refine sx_seq fun K1 k1 => sx_region ?_
 refine av rfl rfl (wl_nil (q_n (k1 _ _ ?_)))
 refine sx_seq fun K2 k2 => ?_
 refine sx_seq fun K3 k3 => sx_region ?_
 refine mv rfl rfl (sp rfl (px_len rfl Tryz.underlying26 hva0) ?_)
 refine sp rfl (px_eq rfl rfl) ?_
 refine mv rfl rfl ?_
 refine sx_tmpP (t := 15) rfl (fun h131 => ?_) (fun h131 => ?_)
 ·
  refine sx_guardF rfl rfl rfl rfl rfl rfl ?_
  refine sx_guardF rfl rfl rfl rfl rfl rfl ?_
  refine sx_guardF rfl rfl rfl rfl rfl rfl ?_
  refine sp rfl (px_pick rfl rfl) ?_
  refine wl_nil (q_n (k3 _ _ ?_))
  refine sx_condT rfl ?_
  refine sx_seq fun K4 k4 => sx_region ?_
  refine av rfl rfl (wl_nil (q_n (k4 _ _ ?_)))
  refine sx_retc ?_
  refine q_r (sx_ret1 Tryz.results76 rfl ?_)
  have e0 : m * n = 0 := by first | (rw [dg_nil.1 (List.length_eq_zero_iff.1 (show (dg m).length = 0 by omega)), Nat.zero_mul]) | (rw [dg_nil.1 (List.length_eq_zero_iff.1 (show (dg n).length = 0 by omega)), Nat.mul_zero])
  rw [e0, dg_zero]
  exact ⟨_, rfl, Sv.nil _ _ _ _, (Chg.refl 0 0 _)⟩
 refine sx_guardT rfl rfl rfl ?_
 refine mv rfl rfl ?_
 refine sx_guardT rfl rfl rfl ?_
 refine sp rfl (px_len rfl Tryz.underlying26 hvb0) ?_
 refine sx_guardT rfl rfl rfl ?_
 refine sp rfl (px_eq rfl rfl) ?_
 refine sp rfl (px_pick rfl rfl) ?_
 refine wl_nil (q_n (k3 _ _ ?_))
 refine sx_condP rfl (fun h131x1 => ?_) (fun h131x1 => ?_)
 ·
  refine sx_seq fun K5 k5 => sx_region ?_
  refine av rfl rfl (wl_nil (q_n (k5 _ _ ?_)))
  refine sx_retc ?_
  refine q_r (sx_ret1 Tryz.results76 rfl ?_)
  have e0 : m * n = 0 := by first | (rw [dg_nil.1 (List.length_eq_zero_iff.1 (show (dg m).length = 0 by omega)), Nat.zero_mul]) | (rw [dg_nil.1 (List.length_eq_zero_iff.1 (show (dg n).length = 0 by omega)), Nat.mul_zero])
  rw [e0, dg_zero]
  exact ⟨_, rfl, Sv.nil _ _ _ _, (Chg.refl 0 0 _)⟩
 refine sx_skip ?_
 refine q_n (k2 _ _ ?_)
 refine sx_seq fun K6 k6 => sx_region ?_
 refine mv rfl rfl (sp rfl (px_len rfl Tryz.underlying26 hva0) ?_)
 refine mv rfl rfl (sp rfl (px_len rfl Tryz.underlying26 hvb0) ?_)
 refine sp rfl (px_add rfl rfl (by omega)) ?_
 refine sx_make (c := (dg m).length + (dg n).length) rfl xelt26 (look_int rfl (by omega)) (look_int rfl (by omega)) (by omega) (by unfold maxLen; omega) (fun s7 ws7 fs7 cs7 ls7 => ?_)
 have ns7 := fs7.made
 have zws7 := cs7.size
 refine av rfl rfl (wl_nil (q_n (k6 _ _ ?_)))
 refine sx_sub (Sub.c 0 rfl (.c 1 rfl (.c 4 rfl (.c 5 rfl .nil)))) ?_
 refine sx_seq fun K8 k8 => ?_
 refine sx_seq fun K9 k9 => sx_region ?_
 refine mv rfl rfl ?_
 have f10 := hva0.ext cs7
 refine sp rfl (px_len rfl Tryz.underlying26 f10) ?_
 refine mv rfl rfl (wl_nil (q_n (k9 _ _ ?_)))
 refine sx_block ?_
 refine sx_loop (fun mm aa w' => ∃ (k : Nat) (os : List Int), Agr 72 [(1, vb), (5, s7), (26, va), (27, .int .i64 (↑(dg m).length)), (28, .int .i64 ↑k)] aa ∧ Chg w.heap.size ws7.heap.size ws7 w' ∧ Own w' w.heap.size ws7.heap.size s7 intT os.length 1 (os.map (Value.int .i64)) ∧ (mm = (dg m).length - k) ∧ (k ≤ (dg m).length) ∧ (os.length = (dg m).length + (dg n).length) ∧ (Lm os) ∧ (∀ i, k + (dg n).length ≤ i → os.getD i 0 = 0) ∧ (vl os = vl ((dg m).take k) * n)) (_) (fun a ha => ⟨0, List.replicate ((dg m).length + (dg n).length) 0, ha.sub (Sub.c 1 rfl (.c 5 rfl (.c 26 rfl (.c 27 (look_int (t := 27) rfl (by first | omega | simp)) (.c 28 (look_int (t := 28) rfl (by first | omega | simp)) .nil))))), Chg.refl _ _ _, (ns7.mono (by omega) (by omega)), rfl, by omega, by simp, Lm.replicate _, fun i _ => zero_rep _ i (Nat.zero_le _), by rw [vl_replicate, List.take_zero]; simp [vl]⟩) ?_
 rintro mm aa wl11 ⟨k, os, hAwl11, cwl11, hs_s7, hm, hk, hos, hlm, hz, hv⟩
 refine (show cw Tryz.prog 72 _ _ _ wl11 from ?_) aa hAwl11
 clear hAwl11
 have zwl11 := cwl11.size
 have am := (Lm_dg m).getD k
 refine sx_seq fun K12 k12 => sx_region ?_
 refine sp rfl (px_lt rfl rfl) ?_
 refine wl_nil (q_n (k12 _ _ ?_))
 refine sx_seq fun K13 k13 => ?_
 refine sx_condP rfl (fun h135 => ?_) (fun h135 => ?_)
 ·
  refine sx_skip ?_
  refine q_n (k13 _ _ ?_)
  refine sx_seq fun K14 k14 => ?_
  refine sx_block ?_
  refine sx_seq fun K15 k15 => sx_region ?_
  refine mv rfl rfl ?_
  have f16 := f10.chg cwl11 (by omega)
  refine sp rfl (px_index1 (j := k) rfl rfl (by omega) Tryz.underlying26 Tryz.sizeOf3 f16 (by first | omega | (simp only [List.length_set]; omega))) ?_
  refine sp rfl (px_load rfl (f16.load1 (at_int (by omega)) Tryz.isAgg3)) ?_
  refine av rfl rfl (av rfl rfl (wl_nil (q_n (k15 _ _ ?_))))
  refine sx_seq fun K17 k17 => sx_region ?_
  refine av rfl rfl (wl_nil (q_n (k17 _ _ ?_)))
  refine sx_seq fun K18 k18 => ?_
  refine sx_seq fun K19 k19 => sx_region ?_
  refine mv rfl rfl ?_
  have f20 := hvb0.ext cs7
  have f21 := f20.chg cwl11 (by omega)
  refine sp rfl (px_len rfl Tryz.underlying26 f21) ?_
  refine mv rfl rfl (wl_nil (q_n (k19 _ _ ?_)))
  refine sx_sub (Sub.c 1 rfl (.c 5 rfl (.c 6 rfl (.c 7 rfl (.c 8 rfl (.c 26 rfl (.c 27 rfl (.c 28 rfl (.c 33 rfl (.c 34 rfl (.c 35 rfl .nil))))))))))) ?_
  refine sx_block ?_
  refine sx_loop (fun mm aa w' => ∃ (j : Nat) (o2 : List Int) (c : Int), Agr 72 [(1, vb), (5, s7), (6, .int .i64 ↑k), (7, .int .i64 ((dg m).getD k 0)), (8, .int .i64 c), (26, va), (27, .int .i64 (↑(dg m).length)), (28, .int .i64 ↑k), (33, vb), (34, .int .i64 (↑(dg n).length)), (35, .int .i64 ↑j)] aa ∧ Chg w.heap.size ws7.heap.size wl11 w' ∧ Own w' w.heap.size ws7.heap.size s7 intT o2.length 1 (o2.map (Value.int .i64)) ∧ (mm = (dg n).length - j) ∧ (j ≤ (dg n).length) ∧ (o2.length = (dg m).length + (dg n).length) ∧ (Lm o2) ∧ (∀ i, k + (dg n).length ≤ i → o2.getD i 0 = 0) ∧ (0 ≤ c ∧ c < 1000000000) ∧ (vl o2 + Bs ^ (k + j) * c.toNat = vl os + Bs ^ k * (((dg m).getD k 0).toNat * vl ((dg n).take j)))) (_) (fun a ha => ⟨0, os, 0, ha.sub (Sub.c 1 rfl (.c 5 rfl (.c 6 rfl (.c 7 rfl (.c 8 (look_int (t := 8) rfl (by first | omega | simp)) (.c 26 rfl (.c 27 rfl (.c 28 rfl (.c 33 rfl (.c 34 (look_int (t := 34) rfl (by first | omega | simp)) (.c 35 (look_int (t := 35) rfl (by first | omega | simp)) .nil))))))))))), Chg.refl _ _ _, hs_s7, rfl, by omega, hos, hlm, hz, by omega, by simp [vl]⟩) ?_
  rintro mm aa wl22 ⟨j, o2, c, hAwl22, cwl22, hs_s7, hm, hj, hos2, hlm2, hz2, hc, hv2⟩
  refine (show cw Tryz.prog 72 _ _ _ wl22 from ?_) aa hAwl22
  clear hAwl22
  have zwl22 := cwl22.size
  have bn := (Lm_dg n).getD j
  have on := hlm2.getD (k + j)
  have hxy := mul_limb am.1 am.2 bn.1 bn.2
  refine sx_seq fun K23 k23 => sx_region ?_
  refine sp rfl (px_lt rfl rfl) ?_
  refine wl_nil (q_n (k23 _ _ ?_))
  refine sx_seq fun K24 k24 => ?_
  refine sx_condP rfl (fun h137 => ?_) (fun h137 => ?_)
  ·
   refine sx_skip ?_
   refine q_n (k24 _ _ ?_)
   refine sx_seq fun K25 k25 => ?_
   refine sx_block ?_
   refine sx_seq fun K26 k26 => sx_region ?_
   refine mv rfl rfl ?_
   have f27 := f21.chg cwl22 (by omega)
   refine sp rfl (px_index1 (j := j) rfl rfl (by omega) Tryz.underlying26 Tryz.sizeOf3 f27 (by first | omega | (simp only [List.length_set]; omega))) ?_
   refine sp rfl (px_load rfl (f27.load1 (at_int (by omega)) Tryz.isAgg3)) ?_
   refine av rfl rfl (av rfl rfl (wl_nil (q_n (k26 _ _ ?_))))
   refine sx_sub (Sub.c 1 rfl (.c 5 rfl (.c 6 rfl (.c 7 rfl (.c 8 rfl (.c 9 rfl (.c 10 rfl (.c 26 rfl (.c 27 rfl (.c 28 rfl (.c 33 rfl (.c 34 rfl (.c 35 rfl .nil))))))))))))) ?_
   refine sx_seq fun K28 k28 => sx_region ?_
   refine mv rfl rfl (mv rfl rfl (mv rfl rfl (sp rfl (px_add rfl rfl (by omega)) ?_)))
   refine sp rfl (px_index1 (j := (k + j)) rfl rfl (by omega) Tryz.underlying26 Tryz.sizeOf3 hs_s7.sv (by first | omega | (simp only [List.length_set]; omega))) ?_
   refine sp rfl (px_load rfl (hs_s7.sv.load1 (at_int (by omega)) Tryz.isAgg3)) ?_
   refine mv rfl rfl (mv rfl rfl (sp rfl (px_mul rfl rfl (by omega)) ?_))
   refine sp rfl (px_add rfl rfl (by omega)) ?_
   refine mv rfl rfl (sp rfl (px_add rfl rfl (by omega)) ?_)
   refine av rfl rfl (wl_nil (q_n (k28 _ _ ?_)))
   refine sx_sub (Sub.c 1 rfl (.c 5 rfl (.c 6 rfl (.c 7 rfl (.c 8 rfl (.c 9 rfl (.c 11 rfl (.c 26 rfl (.c 27 rfl (.c 28 rfl (.c 33 rfl (.c 34 rfl (.c 35 rfl .nil))))))))))))) ?_
   refine sx_seq fun K29 k29 => sx_region ?_
   refine mv rfl rfl (mv rfl rfl (mv rfl rfl (sp rfl (px_add rfl rfl (by omega)) ?_)))
   refine mv rfl rfl (sp rfl (px_rem rfl rfl (by omega) (by omega)) ?_)
   refine sp rfl (px_index1 (j := (k + j)) rfl rfl (by omega) Tryz.underlying26 Tryz.sizeOf3 hs_s7.sv (by first | omega | (simp only [List.length_set]; omega))) ?_
   refine sx_storeO rfl rfl hs_s7 (by first | omega | (simp only [List.length_map]; omega)) Tryz.sizeOf3 rfl (fun w30 sw30 fw30 cw30 => ?_)
   have zw30 := cw30.size
   have nw30 := fw30.set
   refine wl_nil (q_n (k29 _ _ ?_))
   refine sx_sub (Sub.c 1 rfl (.c 5 rfl (.c 6 rfl (.c 7 rfl (.c 8 rfl (.c 11 rfl (.c 26 rfl (.c 27 rfl (.c 28 rfl (.c 33 rfl (.c 34 rfl (.c 35 rfl .nil)))))))))))) ?_
   refine sx_region ?_
   refine mv rfl rfl (sp rfl (px_quo rfl rfl (by omega) (by omega) (by omega)) ?_)
   refine av rfl rfl (wl_nil ?_)
   refine q_bn (q_n (k25 _ _ ?_))
   refine sx_region ?_
   refine sp rfl (px_add rfl rfl (by omega)) ?_
   refine mv rfl rfl (wl_nil ?_)
   have q31 := Chg.step (l := w.heap.size) (h := ws7.heap.size) cwl22 cw30 (by omega)
   have hs : ((((o2).getD (k + j) 0) + (((dg m).getD k 0) * ((dg n).getD j 0))) + c) = c + (o2.getD (k + j) 0 + (dg m).getD k 0 * (dg n).getD j 0) := by omega
   have hm2 := mul_step (V := vl os) hc.1 am.1 on.1 bn.1 (by omega) (by omega) hs hv2
   exact fun a ha => ⟨_, by omega, (j + 1), ((o2).set (k + j) (((((o2).getD (k + j) 0) + (((dg m).getD k 0) * ((dg n).getD j 0))) + c) % 1000000000)), (((((o2).getD (k + j) 0) + (((dg m).getD k 0) * ((dg n).getD j 0))) + c) / 1000000000), ha.sub (Sub.c 1 rfl (.c 5 rfl (.c 6 rfl (.c 7 rfl (.c 8 (look_int (t := 8) rfl (by first | omega | simp)) (.c 26 rfl (.c 27 rfl (.c 28 rfl (.c 33 rfl (.c 34 rfl (.c 35 (look_int (t := 35) rfl (by first | omega | simp)) .nil))))))))))), q31, (nw30.mono (by omega) (by omega)), rfl, by omega, by simpa using hos2, hlm2.set _ (by omega) (by omega), zero_set' hz2 (by omega), by omega, hm2⟩
  refine sx_exit ?_
  refine q_e (q_e (q_bx (q_n (k18 _ _ ?_))))
  have ej : j = (dg n).length := by omega
  rw [ej, List.take_length, vl_dg] at hv2
  refine sx_region ?_
  refine mv rfl rfl (mv rfl rfl (mv rfl rfl ?_))
  have f32 := f21.chg cwl22 (by omega)
  refine sp rfl (px_len rfl Tryz.underlying26 f32) ?_
  refine sp rfl (px_add rfl rfl (by omega)) ?_
  refine mv rfl rfl (sp rfl (px_index1 (j := (k + (dg n).length)) rfl rfl (by omega) Tryz.underlying26 Tryz.sizeOf3 hs_s7.sv (by first | omega | (simp only [List.length_set]; omega))) ?_)
  refine sx_storeO rfl rfl hs_s7 (by first | omega | (simp only [List.length_map]; omega)) Tryz.sizeOf3 rfl (fun w33 sw33 fw33 cw33 => ?_)
  have zw33 := cw33.size
  have nw33 := fw33.set
  refine wl_nil ?_
  refine q_bn (q_n (k14 _ _ ?_))
  refine sx_sub (Sub.c 1 rfl (.c 5 rfl (.c 26 rfl (.c 27 rfl (.c 28 rfl .nil))))) ?_
  have oz := hz2 (k + (dg n).length) (Nat.le_refl _)
  have hosR : (o2.set (k + (dg n).length) c).length = (dg m).length + (dg n).length := by simpa using hos2
  have hlmR := hlm2.set (k + (dg n).length) hc.1 hc.2
  have hzR : ∀ i, k + (dg n).length + 1 ≤ i → (o2.set (k + (dg n).length) c).getD i 0 = 0 := zero_set hz2 (by omega)
  have hvR : vl (o2.set (k + (dg n).length) c) = vl os + Bs ^ k * (((dg m).getD k 0).toNat * n) := (carry_step (by omega) oz).trans hv2
  refine sx_region ?_
  refine sp rfl (px_add rfl rfl (by omega)) ?_
  refine mv rfl rfl (wl_nil ?_)
  have q34 := Chg.step (l := w.heap.size) (h := ws7.heap.size) cwl11 cwl22 (by omega)
  have q35 := Chg.step (l := w.heap.size) (h := ws7.heap.size) q34 cw33 (by omega)
  have hrow := mul_row (P := Bs ^ k) (a := ((dg m).getD k 0).toNat) hv
  rw [← vl_take_succ'] at hrow
  exact fun a ha => ⟨_, by omega, (k + 1), ((o2).set (k + (dg n).length) c), ha.sub (Sub.c 1 rfl (.c 5 rfl (.c 26 rfl (.c 27 rfl (.c 28 (look_int (t := 28) rfl (by first | omega | simp)) .nil))))), q35, (nw33.mono (by omega) (by omega)), rfl, by omega, by simpa using hosR, hlmR, fun i hi => hzR i (by omega), hvR.trans hrow⟩
 refine sx_exit ?_
 refine q_e (q_e (q_bx (q_n (k8 _ _ ?_))))
 refine sx_seq fun K36 k36 => ?_
 have ek : k = (dg m).length := by omega
 rw [ek, List.take_length, vl_dg] at hv
 have hzz := hlm
 refine sx_region ?_
 refine mv rfl rfl (sx_call rfl rfl Tryz.call113 (c_l02Trim hs_s7 (by assumption) (by first | omega | (simp only [List.length_append, List.length_set, List.length_replicate, List.length_cons, List.length_nil] at *; omega))) (fun v37 w37 p37 => ?_))
 obtain ⟨s37, rfl, os_37, c37⟩ := p37
 have zw37 := c37.size
 refine av rfl rfl (wl_nil (q_n (k36 _ _ ?_)))
 refine sx_retc ?_
 refine sx_ret1 Tryz.results76 rfl ?_
 have hr := Own.sv os_37
 rw [hv] at hr
 have q38 := Chg.step (l := 0) (h := 0) (Chg.zero (l := 0) (h := 0) cs7) cwl11 (by omega)
 have q39 := Chg.step (l := 0) (h := 0) q38 c37 (by omega)
 exact ⟨_, rfl, hr.mono (by omega) (by omega), q39⟩

theorem c_l03Digit {w : World} {va : Value} {lva uva : Nat} {m : Nat} {vb : Value} {lvb uvb : Nat} {n : Nat} (hva : Sl w lva uva va (dg m)) (hvb : Sl w lvb uvb vb (dg n)) (hbm : (dg m).length ≤ 1000) (hbn : (dg n).length ≤ 990) (hq : m < (999999999 + 1) * n) :
  Ret Tryz.prog 141 [va, vb] w fun v w' => v = .int .i64 (((m / n : Nat) : Int)) ∧ Chg 0 0 w w' := by
 have hva0 := hva.fit
 have hvb0 := hvb.fit
 refine sx_enter Tryz.func141 rfl Tryz.ntmps141 (nbl rfl) ?_
 refine sx_seq fun K1 k1 => sx_region ?_
 refine av rfl rfl (wl_nil (q_n (k1 _ _ ?_)))
 refine sx_seq fun K2 k2 => sx_region ?_
 refine av rfl rfl (wl_nil (q_n (k2 _ _ ?_)))
 refine sx_seq fun K3 k3 => sx_region ?_
 refine av rfl rfl (wl_nil (q_n (k3 _ _ ?_)))
 refine sx_seq fun K4 k4 => ?_
 refine sx_block ?_
 refine sx_loop (fun mm aa w' => ∃ (lo : Int) (hi : Int), Agr 27 [(0, va), (1, vb), (5, .int .i64 lo), (6, .int .i64 hi)] aa ∧ Chg 0 0 w w' ∧ (mm = (hi - lo).toNat) ∧ (0 ≤ lo ∧ lo ≤ hi ∧ hi ≤ 999999999) ∧ (lo.toNat * n ≤ m) ∧ (m < (hi.toNat + 1) * n)) (_) (fun a ha => ⟨0, 999999999, ha.sub (Sub.c 0 rfl (.c 1 rfl (.c 5 (look_int (t := 5) rfl (by first | omega | simp)) (.c 6 (look_int (t := 6) rfl (by first | omega | simp)) .nil)))), Chg.refl _ _ _, rfl, by omega, by simp, hq⟩) ?_
 rintro mm aa wl5 ⟨lo, hi, hAwl5, cwl5, hm, hb, hl, hh⟩
 refine (show cw Tryz.prog 27 _ _ _ wl5 from ?_) aa hAwl5
 clear hAwl5
 have zwl5 := cwl5.size
 have lq := len_u64 (n := ((lo + hi + 1) / 2)) (by omega)
 have lm := len_mul n ((lo + hi + 1) / 2).toNat
 refine sx_seq fun K6 k6 => ?_
 refine sx_seq fun K7 k7 => sx_region ?_
 refine mv rfl rfl (mv rfl rfl (sp rfl (px_lt rfl rfl) ?_))
 refine wl_nil (q_n (k7 _ _ ?_))
 refine sx_condP rfl (fun h20 => ?_) (fun h20 => ?_)
 ·
  refine sx_skip ?_
  refine q_n (k6 _ _ ?_)
  refine sx_block ?_
  refine sx_seq fun K8 k8 => sx_region ?_
  refine mv rfl rfl (mv rfl rfl (sp rfl (px_add rfl rfl (by omega)) ?_))
  refine sp rfl (px_add rfl rfl (by omega)) ?_
  refine sp rfl (px_quo rfl rfl (by omega) (by omega) (by omega)) ?_
  refine av rfl rfl (wl_nil (q_n (k8 _ _ ?_)))
  refine sx_seq fun K9 k9 => sx_region ?_
  refine mv rfl rfl (mv rfl rfl (sx_call rfl rfl Tryz.call71 (c_sNatOf (by omega)) (fun v10 w10 p10 => ?_)))
  obtain ⟨s10, rfl, os_10, c10⟩ := p10
  have zw10 := c10.size
  have f11 := hvb0.ext cwl5
  have f12 := f11.ext c10
  refine sx_call rfl rfl Tryz.call76 (c_l02Mul f12 os_10.sv (by omega) (by omega)) (fun v13 w13 p13 => ?_)
  obtain ⟨s13, rfl, os_13, c13⟩ := p13
  have zw13 := c13.size
  refine mv rfl rfl ?_
  have f14 := hva0.ext cwl5
  have f16 := (f14.ext c10).ext c13
  refine sx_call rfl rfl Tryz.call111 (c_l02Cmp os_13 f16 (by omega)) (fun v17 w17 p17 => ?_)
  obtain ⟨rfl, c17⟩ := p17
  have zw17 := c17.size
  refine sp rfl (px_le rfl rfl) ?_
  refine wl_nil (q_n (k9 _ _ ?_))
  refine sx_sub (Sub.c 0 rfl (.c 1 rfl (.c 5 rfl (.c 6 rfl (.c 7 rfl (.c 22 rfl .nil)))))) ?_
  refine sx_condP rfl (fun h22 => ?_) (fun h22 => ?_)
  ·
   rw [cmpL_dg] at h22
   have hle := cmpN_le.1 h22
   refine sx_region ?_
   refine mv rfl rfl (av rfl rfl (wl_nil ?_))
   exact q_bn (fun a ha => ⟨_, by omega, (((lo + hi) + 1) / 2), hi, ha.sub (Sub.c 0 rfl (.c 1 rfl (.c 5 (look_int (t := 5) rfl (by first | omega | simp)) (.c 6 rfl .nil)))), (((cwl5.t c10).t c13).t c17), rfl, by omega, by first | exact hl | (rw [Nat.mul_comm]; exact hle), by first | exact hh | (rw [show (((lo + hi + 1) / 2) - 1).toNat + 1 = ((lo + hi + 1) / 2).toNat by omega, Nat.mul_comm]; exact hgt)⟩)
  rw [cmpL_dg] at h22
  have hgt := Nat.lt_of_not_le (mt cmpN_le.2 h22)
  refine sx_region ?_
  refine mv rfl rfl (sp rfl (px_sub rfl rfl (by omega)) ?_)
  refine av rfl rfl (wl_nil ?_)
  exact q_bn (fun a ha => ⟨_, by omega, lo, ((((lo + hi) + 1) / 2) - 1), ha.sub (Sub.c 0 rfl (.c 1 rfl (.c 5 rfl (.c 6 (look_int (t := 6) rfl (by first | omega | simp)) .nil)))), (((cwl5.t c10).t c13).t c17), rfl, by omega, by first | exact hl | (rw [Nat.mul_comm]; exact hle), by first | exact hh | (rw [show (((lo + hi + 1) / 2) - 1).toNat + 1 = ((lo + hi + 1) / 2).toNat by omega, Nat.mul_comm]; exact hgt)⟩)
 refine sx_exit ?_
 refine q_e (q_e (q_bx (q_n (k4 _ _ ?_))))
 refine sx_seq fun K18 k18 => sx_region ?_
 refine mv rfl rfl (av rfl rfl (wl_nil (q_n (k18 _ _ ?_))))
 refine sx_retc ?_
 refine sx_ret1 Tryz.results141 rfl ?_
 have he := digit_end hb.1 (by omega) hb.2.1 hl hh
 exact ⟨by rw [he], cwl5⟩

theorem c_l02Sub {w : World} {va : Value} {lva uva : Nat} {m : Nat} {vb : Value} {lvb uvb : Nat} {n : Nat} (hva : Sl w lva uva va (dg m)) (hvb : Sl w lvb uvb vb (dg n)) (hbm : (dg m).length ≤ 1000) (hbn : (dg n).length ≤ 1000) (hle : n ≤ m) :
  Ret Tryz.prog 142 [va, vb] w fun v w' => ∃ s, v = s ∧ Sl w' (w.heap.size) (w'.heap.size) s (dg (m - n)) ∧ Chg 0 0 w w' := by
 have hva0 := hva.fit
 have hvb0 := hvb.fit
 refine sx_enter Tryz.func142 rfl Tryz.ntmps142 (nbl rfl) ?_
 refine sx_seq fun K1 k1 => sx_region ?_
 refine av rfl rfl (wl_nil (q_n (k1 _ _ ?_)))
 refine sx_seq fun K2 k2 => sx_region ?_
 refine sx_lit0 rfl xelt26 (fun s3 ws3 ss3 fs3 cs3 => ?_)
 have zws3 := cs3.size
 refine av rfl rfl (wl_nil (q_n (k2 _ _ ?_)))
 refine sx_seq fun K4 k4 => sx_region ?_
 refine av rfl rfl (wl_nil (q_n (k4 _ _ ?_)))
 refine sx_seq fun K5 k5 => ?_
 refine sx_seq fun K6 k6 => sx_region ?_
 refine mv rfl rfl ?_
 have f7 := hva0.ext cs3
 refine sp rfl (px_len rfl Tryz.underlying26 f7) ?_
 refine mv rfl rfl (wl_nil (q_n (k6 _ _ ?_)))
 refine sx_block ?_
 refine sx_loop (fun mm aa w' => ∃ (k : Nat) (s : Value) (os : List Int) (c : Nat), Agr 42 [(0, va), (1, vb), (5, s), (6, .int .i64 ((c : Nat) : Int)), (11, .int .i64 (↑(dg m).length)), (12, .int .i64 ↑k)] aa ∧ Chg w.heap.size ws3.heap.size ws3 w' ∧ Own w' w.heap.size w'.heap.size s intT os.length 1 (os.map (Value.int .i64)) ∧ (mm = (dg m).length - k) ∧ (os.length = k) ∧ (Lm os) ∧ (c ≤ 1) ∧ (k ≤ (dg m).length) ∧ (vl ((dg m).take k) + Bs ^ k * c = vl (os) + vl ((dg n).take k))) (_) (fun a ha => ⟨0, s3, [], 0, ha.sub (Sub.c 0 rfl (.c 1 rfl (.c 5 rfl (.c 6 (look_int (t := 6) rfl (by first | omega | simp)) (.c 11 (look_int (t := 11) rfl (by first | omega | simp)) (.c 12 (look_int (t := 12) rfl (by first | omega | simp)) .nil)))))), Chg.refl _ _ _, (fs3.mono (by omega) (by omega)), rfl, by simp, Lm.nil, by omega, by omega, by simp [vl]⟩) ?_
 rintro mm aa wl8 ⟨k, s, os, c, hAwl8, cwl8, hs_s, hm, hos, hlm, hc, hk, hv⟩
 refine (show cw Tryz.prog 42 _ _ _ wl8 from ?_) aa hAwl8
 clear hAwl8
 have zwl8 := cwl8.size
 have am := (Lm_dg m).getD k
 have bn := (Lm_dg n).getD k
 refine sx_seq fun K9 k9 => sx_region ?_
 refine sp rfl (px_lt rfl rfl) ?_
 refine wl_nil (q_n (k9 _ _ ?_))
 refine sx_seq fun K10 k10 => ?_
 refine sx_condP rfl (fun h107 => ?_) (fun h107 => ?_)
 ·
  refine sx_skip ?_
  refine q_n (k10 _ _ ?_)
  refine sx_seq fun K11 k11 => ?_
  refine sx_block ?_
  refine sx_seq fun K12 k12 => sx_region ?_
  refine mv rfl rfl (av rfl rfl (wl_nil (q_n (k12 _ _ ?_))))
  refine sx_seq fun K13 k13 => sx_region ?_
  refine mv rfl rfl (mv rfl rfl ?_)
  have f14 := f7.chg cwl8 (by omega)
  refine sp rfl (px_index1 (j := k) rfl rfl (by omega) Tryz.underlying26 Tryz.sizeOf3 f14 (by omega)) ?_
  refine sp rfl (px_load rfl (f14.load1 (at_int (by omega)) Tryz.isAgg3)) ?_
  refine mv rfl rfl (sp rfl (px_sub rfl rfl (by omega)) ?_)
  refine av rfl rfl (wl_nil (q_n (k13 _ _ ?_)))
  refine sx_sub (Sub.c 0 rfl (.c 1 rfl (.c 5 rfl (.c 6 rfl (.c 7 rfl (.c 8 rfl (.c 11 rfl (.c 12 rfl .nil)))))))) ?_
  refine sx_seq fun K15 k15 => ?_
  refine sx_seq fun K16 k16 => sx_region ?_
  refine mv rfl rfl (mv rfl rfl ?_)
  have f17 := hvb0.ext cs3
  have f18 := f17.chg cwl8 (by omega)
  refine sp rfl (px_len rfl Tryz.underlying26 f18) ?_
  refine sp rfl (px_lt rfl rfl) ?_
  refine wl_nil (q_n (k16 _ _ ?_))
  refine sx_condP rfl (fun h109 => ?_) (fun h109 => ?_)
  ·
   refine sx_region ?_
   refine mv rfl rfl (mv rfl rfl (mv rfl rfl (sp rfl (px_index1 (j := k) rfl rfl (by omega) Tryz.underlying26 Tryz.sizeOf3 f18 (by omega)) ?_)))
   refine sp rfl (px_load rfl (f18.load1 (at_int (by omega)) Tryz.isAgg3)) ?_
   refine sp rfl (px_sub rfl rfl (by omega)) ?_
   refine av rfl rfl (wl_nil (q_n (k15 _ _ ?_)))
   refine sx_sub (Sub.c 0 rfl (.c 1 rfl (.c 5 rfl (.c 6 rfl (.c 8 rfl (.c 11 rfl (.c 12 rfl .nil))))))) ?_
   refine sx_seq fun K19 k19 => sx_region ?_
   refine av rfl rfl (wl_nil (q_n (k19 _ _ ?_)))
   refine sx_seq fun K20 k20 => ?_
   refine sx_seq fun K21 k21 => sx_region ?_
   refine mv rfl rfl (sp rfl (px_lt rfl rfl) ?_)
   refine wl_nil (q_n (k21 _ _ ?_))
   refine sx_condP rfl (fun h113 => ?_) (fun h113 => ?_)
   ·
    refine sx_seq fun K22 k22 => sx_region ?_
    refine mv rfl rfl (sp rfl (px_add rfl rfl (by omega)) ?_)
    refine av rfl rfl (wl_nil (q_n (k22 _ _ ?_)))
    refine sx_region ?_
    refine av rfl rfl (wl_nil (q_n (k20 _ _ ?_)))
    refine sx_region ?_
    refine mv rfl rfl (mv rfl rfl ?_)
    refine sx_lit1 rfl xelt26 rfl rfl (fun s23 ws23 ss23 fs23 cs23 => ?_)
    have ns23 := Own.norm (f := (Value.int .i64)) (zs := [((((dg m).getD k 0) - ((c : Nat) : Int)) - ((dg n).getD k 0)) + 1000000000]) fs23
    have zws23 := cs23.size
    have f25 := hs_s.ext cs23
    refine sx_append rfl xelt26 rfl rfl f25 ns23.sv one_int (by omega) (by simp only [List.length_cons, List.length_nil]; omega) (by unfold maxLen; simp only [List.length_cons, List.length_nil]; omega) (fun a24 w24 fw24 cw24 => ?_)
    have nw24 := Own.app (f := (Value.int .i64)) (a := os) (b := [((((dg m).getD k 0) - ((c : Nat) : Int)) - ((dg n).getD k 0)) + 1000000000]) fw24
    have zw24 := cw24.size
    refine av rfl rfl (wl_nil ?_)
    refine q_bn (q_n (k11 _ _ ?_))
    refine sx_sub (Sub.c 0 rfl (.c 1 rfl (.c 5 rfl (.c 6 rfl (.c 11 rfl (.c 12 rfl .nil)))))) ?_
    refine sx_region ?_
    refine sp rfl (px_add rfl rfl (by omega)) ?_
    refine mv rfl rfl (wl_nil ?_)
    have q26 := Chg.step (l := w.heap.size) (h := ws3.heap.size) cwl8 cs23 (by omega)
    have q27 := Chg.step (l := w.heap.size) (h := ws3.heap.size) q26 cw24 (by omega)
    have hs : ((dg m).getD k 0).toNat + Bs * 1 = ((dg n).getD k 0).toNat + c + ((((((dg m).getD k 0) - ((c : Nat) : Int)) - ((dg n).getD k 0)) + 1000000000) : Int).toNat := by simp only [Bs]; omega
    have hv2 : vl ((dg m).take (k + 1)) + Bs ^ (k + 1) * 1 = vl (os ++ [(((((dg m).getD k 0) - ((c : Nat) : Int)) - ((dg n).getD k 0)) + 1000000000)]) + vl ((dg n).take (k + 1)) := by
     rw [vl_concat, hos, vl_take_succ', vl_take_succ', Nat.pow_succ]
     exact sub_step hs hv
    exact fun a ha => ⟨_, by omega, (k + 1), a24, (os ++ ([((((dg m).getD k 0) - ((c : Nat) : Int)) - ((dg n).getD k 0)) + 1000000000])), 1, ha.sub (Sub.c 0 rfl (.c 1 rfl (.c 5 rfl (.c 6 (look_int (t := 6) rfl (by first | omega | simp)) (.c 11 rfl (.c 12 (look_int (t := 12) rfl (by first | omega | simp)) .nil)))))), q27, (nw24.mono (by omega) (by omega)), rfl, by simp [hos], hlm.append (Lm.single (by omega) (by omega)), by omega, by omega, hv2⟩
   refine sx_skip ?_
   refine q_n (k20 _ _ ?_)
   refine sx_region ?_
   refine mv rfl rfl (mv rfl rfl ?_)
   refine sx_lit1 rfl xelt26 rfl rfl (fun s28 ws28 ss28 fs28 cs28 => ?_)
   have ns28 := Own.norm (f := (Value.int .i64)) (zs := [(((dg m).getD k 0) - ((c : Nat) : Int)) - ((dg n).getD k 0)]) fs28
   have zws28 := cs28.size
   have f30 := hs_s.ext cs28
   refine sx_append rfl xelt26 rfl rfl f30 ns28.sv one_int (by omega) (by simp only [List.length_cons, List.length_nil]; omega) (by unfold maxLen; simp only [List.length_cons, List.length_nil]; omega) (fun a29 w29 fw29 cw29 => ?_)
   have nw29 := Own.app (f := (Value.int .i64)) (a := os) (b := [(((dg m).getD k 0) - ((c : Nat) : Int)) - ((dg n).getD k 0)]) fw29
   have zw29 := cw29.size
   refine av rfl rfl (wl_nil ?_)
   refine q_bn (q_n (k11 _ _ ?_))
   refine sx_region ?_
   refine sp rfl (px_add rfl rfl (by omega)) ?_
   refine mv rfl rfl (wl_nil ?_)
   have q31 := Chg.step (l := w.heap.size) (h := ws3.heap.size) cwl8 cs28 (by omega)
   have q32 := Chg.step (l := w.heap.size) (h := ws3.heap.size) q31 cw29 (by omega)
   have hs : ((dg m).getD k 0).toNat + Bs * 0 = ((dg n).getD k 0).toNat + c + (((((dg m).getD k 0) - ((c : Nat) : Int)) - ((dg n).getD k 0)) : Int).toNat := by simp only [Bs]; omega
   have hv2 : vl ((dg m).take (k + 1)) + Bs ^ (k + 1) * 0 = vl (os ++ [((((dg m).getD k 0) - ((c : Nat) : Int)) - ((dg n).getD k 0))]) + vl ((dg n).take (k + 1)) := by
    rw [vl_concat, hos, vl_take_succ', vl_take_succ', Nat.pow_succ]
    exact sub_step hs hv
   exact fun a ha => ⟨_, by omega, (k + 1), a29, (os ++ ([(((dg m).getD k 0) - ((c : Nat) : Int)) - ((dg n).getD k 0)])), 0, ha.sub (Sub.c 0 rfl (.c 1 rfl (.c 5 rfl (.c 6 (look_int (t := 6) rfl (by first | omega | simp)) (.c 11 rfl (.c 12 (look_int (t := 12) rfl (by first | omega | simp)) .nil)))))), q32, (nw29.mono (by omega) (by omega)), rfl, by simp [hos], hlm.append (Lm.single (by omega) (by omega)), by omega, by omega, hv2⟩
  have gn := getD_ge (zs := dg n) (k := k) (by omega)
  refine sx_skip ?_
  refine q_n (k15 _ _ ?_)
  refine sx_seq fun K33 k33 => sx_region ?_
  refine av rfl rfl (wl_nil (q_n (k33 _ _ ?_)))
  refine sx_seq fun K34 k34 => ?_
  refine sx_seq fun K35 k35 => sx_region ?_
  refine mv rfl rfl (sp rfl (px_lt rfl rfl) ?_)
  refine wl_nil (q_n (k35 _ _ ?_))
  refine sx_condP rfl (fun h113 => ?_) (fun h113 => ?_)
  ·
   refine sx_seq fun K36 k36 => sx_region ?_
   refine mv rfl rfl (sp rfl (px_add rfl rfl (by omega)) ?_)
   refine av rfl rfl (wl_nil (q_n (k36 _ _ ?_)))
   refine sx_sub (Sub.c 0 rfl (.c 1 rfl (.c 5 rfl (.c 6 rfl (.c 8 rfl (.c 11 rfl (.c 12 rfl .nil))))))) ?_
   refine sx_region ?_
   refine av rfl rfl (wl_nil (q_n (k34 _ _ ?_)))
   refine sx_region ?_
   refine mv rfl rfl (mv rfl rfl ?_)
   refine sx_lit1 rfl xelt26 rfl rfl (fun s37 ws37 ss37 fs37 cs37 => ?_)
   have ns37 := Own.norm (f := (Value.int .i64)) (zs := [(((dg m).getD k 0) - ((c : Nat) : Int)) + 1000000000]) fs37
   have zws37 := cs37.size
   have f39 := hs_s.ext cs37
   refine sx_append rfl xelt26 rfl rfl f39 ns37.sv one_int (by omega) (by simp only [List.length_cons, List.length_nil]; omega) (by unfold maxLen; simp only [List.length_cons, List.length_nil]; omega) (fun a38 w38 fw38 cw38 => ?_)
   have nw38 := Own.app (f := (Value.int .i64)) (a := os) (b := [(((dg m).getD k 0) - ((c : Nat) : Int)) + 1000000000]) fw38
   have zw38 := cw38.size
   refine av rfl rfl (wl_nil ?_)
   refine q_bn (q_n (k11 _ _ ?_))
   refine sx_region ?_
   refine sp rfl (px_add rfl rfl (by omega)) ?_
   refine mv rfl rfl (wl_nil ?_)
   have q40 := Chg.step (l := w.heap.size) (h := ws3.heap.size) cwl8 cs37 (by omega)
   have q41 := Chg.step (l := w.heap.size) (h := ws3.heap.size) q40 cw38 (by omega)
   have hs : ((dg m).getD k 0).toNat + Bs * 1 = ((dg n).getD k 0).toNat + c + (((((dg m).getD k 0) - ((c : Nat) : Int)) + 1000000000) : Int).toNat := by simp only [Bs]; omega
   have hv2 : vl ((dg m).take (k + 1)) + Bs ^ (k + 1) * 1 = vl (os ++ [((((dg m).getD k 0) - ((c : Nat) : Int)) + 1000000000)]) + vl ((dg n).take (k + 1)) := by
    rw [vl_concat, hos, vl_take_succ', vl_take_succ', Nat.pow_succ]
    exact sub_step hs hv
   exact fun a ha => ⟨_, by omega, (k + 1), a38, (os ++ ([(((dg m).getD k 0) - ((c : Nat) : Int)) + 1000000000])), 1, ha.sub (Sub.c 0 rfl (.c 1 rfl (.c 5 rfl (.c 6 (look_int (t := 6) rfl (by first | omega | simp)) (.c 11 rfl (.c 12 (look_int (t := 12) rfl (by first | omega | simp)) .nil)))))), q41, (nw38.mono (by omega) (by omega)), rfl, by simp [hos], hlm.append (Lm.single (by omega) (by omega)), by omega, by omega, hv2⟩
  refine sx_skip ?_
  refine q_n (k34 _ _ ?_)
  refine sx_region ?_
  refine mv rfl rfl (mv rfl rfl ?_)
  refine sx_lit1 rfl xelt26 rfl rfl (fun s42 ws42 ss42 fs42 cs42 => ?_)
  have ns42 := Own.norm (f := (Value.int .i64)) (zs := [((dg m).getD k 0) - ((c : Nat) : Int)]) fs42
  have zws42 := cs42.size
  have f44 := hs_s.ext cs42
  refine sx_append rfl xelt26 rfl rfl f44 ns42.sv one_int (by omega) (by simp only [List.length_cons, List.length_nil]; omega) (by unfold maxLen; simp only [List.length_cons, List.length_nil]; omega) (fun a43 w43 fw43 cw43 => ?_)
  have nw43 := Own.app (f := (Value.int .i64)) (a := os) (b := [((dg m).getD k 0) - ((c : Nat) : Int)]) fw43
  have zw43 := cw43.size
  refine av rfl rfl (wl_nil ?_)
  refine q_bn (q_n (k11 _ _ ?_))
  refine sx_sub (Sub.c 0 rfl (.c 1 rfl (.c 5 rfl (.c 6 rfl (.c 11 rfl (.c 12 rfl .nil)))))) ?_
  refine sx_region ?_
  refine sp rfl (px_add rfl rfl (by omega)) ?_
  refine mv rfl rfl (wl_nil ?_)
  have q45 := Chg.step (l := w.heap.size) (h := ws3.heap.size) cwl8 cs42 (by omega)
  have q46 := Chg.step (l := w.heap.size) (h := ws3.heap.size) q45 cw43 (by omega)
  have hs : ((dg m).getD k 0).toNat + Bs * 0 = ((dg n).getD k 0).toNat + c + ((((dg m).getD k 0) - ((c : Nat) : Int)) : Int).toNat := by simp only [Bs]; omega
  have hv2 : vl ((dg m).take (k + 1)) + Bs ^ (k + 1) * 0 = vl (os ++ [(((dg m).getD k 0) - ((c : Nat) : Int))]) + vl ((dg n).take (k + 1)) := by
   rw [vl_concat, hos, vl_take_succ', vl_take_succ', Nat.pow_succ]
   exact sub_step hs hv
  exact fun a ha => ⟨_, by omega, (k + 1), a43, (os ++ ([((dg m).getD k 0) - ((c : Nat) : Int)])), 0, ha.sub (Sub.c 0 rfl (.c 1 rfl (.c 5 rfl (.c 6 (look_int (t := 6) rfl (by first | omega | simp)) (.c 11 rfl (.c 12 (look_int (t := 12) rfl (by first | omega | simp)) .nil)))))), q46, (nw43.mono (by omega) (by omega)), rfl, by simp [hos], hlm.append (Lm.single (by omega) (by omega)), by omega, by omega, hv2⟩
 refine sx_exit ?_
 refine q_e (q_e (q_bx (q_n (k5 _ _ ?_))))
 refine sx_seq fun K47 k47 => ?_
 have ek : k = (dg m).length := by omega
 have hnm := len_le hle
 rw [ek, List.take_length, vl_dg, vl_take_ge (show (dg n).length ≤ (dg m).length from hnm), vl_dg] at hv
 have hend := sub_end hv hle (by have h9 := vl_lt hlm; rw [hos, ek] at h9; exact h9) hc
 have hvv := hend.2
 have hz := hlm
 refine sx_region ?_
 refine mv rfl rfl (sx_call rfl rfl Tryz.call113 (c_l02Trim hs_s (by assumption) (by first | omega | (simp only [List.length_append, List.length_set, List.length_replicate, List.length_cons, List.length_nil] at *; omega))) (fun v48 w48 p48 => ?_))
 obtain ⟨s48, rfl, os_48, c48⟩ := p48
 have zw48 := c48.size
 refine av rfl rfl (wl_nil (q_n (k47 _ _ ?_)))
 refine sx_retc ?_
 refine sx_ret1 Tryz.results142 rfl ?_
 have hr := Own.sv os_48
 rw [hvv] at hr
 have q49 := Chg.step (l := 0) (h := 0) (Chg.zero (l := 0) (h := 0) cs3) cwl8 (by omega)
 have q50 := Chg.step (l := 0) (h := 0) q49 c48 (by omega)
 exact ⟨_, rfl, hr.mono (by omega) (by omega), q50⟩

end Go.Proofs.YtcghgfmickgnkaaGreatDoor
