/- Contracts of functions of the program: what each call returns, and that it changes nothing that was. Conditions: as each says. -/
import Derived.Test.YtcghgfmickgnkaaDoorTy
import Derived.Test.YtcghgfmickgnkaaDoorNatO
import Derived.Test.YtcghgfmickgnkaaDoorNatL
import Derived.Test.YtcghgfmickgnkaaDoorSxD
import Derived.Test.YtcghgfmickgnkaaDoorPair
set_option linter.unusedVariables false
set_option linter.unusedSimpArgs false
namespace Go.Proofs.YtcghgfmickgnkaaDoor
open Go Go.RowKit
set_option maxRecDepth 100000
theorem c_szIntS {w : World} {va : Value} {lva uva : Nat} {zs : List Int} {n : Int} (hva : Sl w lva uva va (zs)) (bzs : zs.length ≤ 9223372036854775807) (hn : 0 ≤ n ∧ n ≤ 1048576) :
  Ret Tryd.prog 47 [va, .int .i64 n] w fun v w' => ∃ r, v = .int .i64 (r) ∧ (r < 0 ∨ (0 ≤ r ∧ r = n - (zs).length)) ∧ Chg 0 0 w w' := by
 have hva0 := hva.fit
 refine sx_enter Tryd.func47 rfl Tryd.ntmps47 (Nat.le_of_ble_eq_true rfl) ?_
 refine sx_seq fun K1 k1 => sx_region ?_
 refine sa rfl rfl rfl rfl ?_
 refine wl_nil (q_n (k1 _ _ ?_))
 refine sx_seq fun K2 k2 => sx_region ?_
 refine sm rfl rfl rfl rfl ?_
 refine sm rfl rfl rfl rfl ?_
 refine sx_pure rfl rfl rfl (px_len rfl Tryd.underlying44 hva0) ?_
 refine sx_pure rfl rfl rfl (px_sub rfl rfl (by omega)) ?_
 refine sa rfl rfl rfl rfl ?_
 refine wl_nil (q_n (k2 _ _ ?_))
 refine sx_seq fun K3 k3 => ?_
 refine sx_seq fun K4 k4 => sx_region ?_
 refine sm rfl rfl rfl rfl ?_
 refine sx_pure rfl rfl rfl (px_lt rfl rfl) ?_
 refine wl_nil (q_n (k4 _ _ ?_))
 refine sx_condP rfl (fun h248 => ?_) (fun h248 => ?_)
 ·
  refine sx_seq fun K5 k5 => sx_region ?_
  refine sa rfl rfl rfl rfl ?_
  refine wl_nil (q_n (k5 _ _ ?_))
  refine sx_retc ?_
  refine q_r (sx_ret1 Tryd.results47 rfl ?_)
  exact ⟨_, rfl, by omega, (Chg.refl 0 0 _)⟩
 ·
  refine sx_skip ?_
  refine q_n (k3 _ _ ?_)
  refine sx_seq fun K6 k6 => sx_region ?_
  refine sm rfl rfl rfl rfl ?_
  refine sa rfl rfl rfl rfl ?_
  refine wl_nil (q_n (k6 _ _ ?_))
  refine sx_retc ?_
  refine sx_ret1 Tryd.results47 rfl ?_
  exact ⟨_, rfl, by omega, (Chg.refl 0 0 _)⟩

theorem c_szSigned {w : World} {n1 : Bool} {v1 : Value} {lv1 uv1 : Nat} {z1 : List Int} {n : Int} (hv1 : Sl w lv1 uv1 v1 (z1)) (bz1 : z1.length ≤ 9223372036854775807) (hn : 0 ≤ n ∧ n ≤ 1048576) :
  Ret Tryd.prog 39 [.agg #[.bool n1, v1], .int .i64 n] w fun v w' => ∃ r, v = .int .i64 (r) ∧ (r < 0 ∨ (0 ≤ r ∧ r = n - (z1).length)) ∧ Chg 0 0 w w' := by
 have hv10 := hv1.fit
 refine sx_enter Tryd.func39 rfl Tryd.ntmps39 (Nat.le_of_ble_eq_true rfl) ?_
 refine sx_seq fun K1 k1 => sx_region ?_
 refine sx_box [.bool n1, v1] rfl rfl rfl (fun b2 w3 eb2 sb2 fb2 cb2 => ?_)
 have zw3 := cb2.size
 refine sa rfl rfl rfl rfl ?_
 refine wl_nil (q_n (k1 _ _ ?_))
 refine sx_seq fun K4 k4 => sx_region ?_
 refine sx_pure rfl rfl rfl (px_field rfl xfld46x1) ?_
 refine sx_pure rfl rfl rfl (px_load rfl (fb2.load1 rfl Tryd.isAgg44)) ?_
 refine sm rfl rfl rfl rfl ?_
 have f5 := hv10.ext cb2
 refine sx_call rfl rfl Tryd.call47 (c_szIntS f5 (by omega) (by omega)) (fun v6 w6 p6 => ?_)
 obtain ⟨r6, rfl, hr6, c6⟩ := p6
 have zw6 := c6.size
 refine sa rfl rfl rfl rfl ?_
 refine wl_nil (q_n (k4 _ _ ?_))
 refine sx_seq fun K7 k7 => ?_
 refine sx_seq fun K8 k8 => sx_region ?_
 refine sm rfl rfl rfl rfl ?_
 refine sx_pure rfl rfl rfl (px_lt rfl rfl) ?_
 refine wl_nil (q_n (k8 _ _ ?_))
 refine sx_condP rfl (fun h256 => ?_) (fun h256 => ?_)
 ·
  refine sx_seq fun K9 k9 => sx_region ?_
  refine sa rfl rfl rfl rfl ?_
  refine wl_nil (q_n (k9 _ _ ?_))
  refine sx_retc ?_
  refine q_r (sx_ret1 Tryd.results39 rfl ?_)
  exact ⟨_, rfl, by omega, (cb2.t c6)⟩
 ·
  refine sx_skip ?_
  refine q_n (k7 _ _ ?_)
  refine sx_seq fun K10 k10 => sx_region ?_
  refine sm rfl rfl rfl rfl ?_
  refine sa rfl rfl rfl rfl ?_
  refine wl_nil (q_n (k10 _ _ ?_))
  refine sx_retc ?_
  refine sx_ret1 Tryd.results39 rfl ?_
  exact ⟨_, rfl, by omega, (cb2.t c6)⟩

theorem c_szDec {w : World} {n1 : Bool} {v1 : Value} {lv1 uv1 : Nat} {z1 : List Int} {p1 : Int} {n : Int} (hv1 : Sl w lv1 uv1 v1 (z1)) (bz1 : z1.length ≤ 9223372036854775807) (hn : 0 ≤ n ∧ n ≤ 1048576) :
  Ret Tryd.prog 30 [.agg #[.bool n1, v1, .int .i64 p1], .int .i64 n] w fun v w' => ∃ r, v = .int .i64 (r) ∧ (r < 0 ∨ (0 ≤ r ∧ r = n - (z1).length)) ∧ Chg 0 0 w w' := by
 have hv10 := hv1.fit
 refine sx_enter Tryd.func30 rfl Tryd.ntmps30 (Nat.le_of_ble_eq_true rfl) ?_
 refine sx_seq fun K1 k1 => sx_region ?_
 refine sx_box [.bool n1, v1, .int .i64 p1] rfl rfl rfl (fun b2 w3 eb2 sb2 fb2 cb2 => ?_)
 have zw3 := cb2.size
 refine sa rfl rfl rfl rfl ?_
 refine wl_nil (q_n (k1 _ _ ?_))
 refine sx_seq fun K4 k4 => sx_region ?_
 refine sx_pure rfl rfl rfl (px_field rfl xfld48x0) ?_
 refine sx_pure rfl rfl rfl (px_load rfl (fb2.loadA (vs := [.bool n1, v1]) (look_lit rfl) Tryd.isAgg46 Tryd.sizeOf46)) ?_
 refine sm rfl rfl rfl rfl ?_
 have f5 := hv10.ext cb2
 refine sx_call rfl rfl Tryd.call39 (c_szSigned f5 (by omega) (by omega)) (fun v6 w6 p6 => ?_)
 obtain ⟨r6, rfl, hr6, c6⟩ := p6
 have zw6 := c6.size
 refine sa rfl rfl rfl rfl ?_
 refine wl_nil (q_n (k4 _ _ ?_))
 refine sx_seq fun K7 k7 => ?_
 refine sx_seq fun K8 k8 => sx_region ?_
 refine sm rfl rfl rfl rfl ?_
 refine sx_pure rfl rfl rfl (px_lt rfl rfl) ?_
 refine wl_nil (q_n (k8 _ _ ?_))
 refine sx_condP rfl (fun h398 => ?_) (fun h398 => ?_)
 ·
  refine sx_seq fun K9 k9 => sx_region ?_
  refine sa rfl rfl rfl rfl ?_
  refine wl_nil (q_n (k9 _ _ ?_))
  refine sx_retc ?_
  refine q_r (sx_ret1 Tryd.results30 rfl ?_)
  exact ⟨_, rfl, by omega, (cb2.t c6)⟩
 ·
  refine sx_skip ?_
  refine q_n (k7 _ _ ?_)
  refine sx_seq fun K10 k10 => sx_region ?_
  refine sm rfl rfl rfl rfl ?_
  refine sa rfl rfl rfl rfl ?_
  refine wl_nil (q_n (k10 _ _ ?_))
  refine sx_retc ?_
  refine sx_ret1 Tryd.results30 rfl ?_
  exact ⟨_, rfl, by omega, (cb2.t c6)⟩

theorem c_szRate {w : World} {f1 : ByteArray} {t1 : ByteArray} {n1 : Bool} {v1 : Value} {lv1 uv1 : Nat} {z1 : List Int} {p1 : Int} {n : Int} (hv1 : Sl w lv1 uv1 v1 (z1)) (bf1 : f1.size ≤ 9223372036854775807) (bt1 : t1.size ≤ 9223372036854775807) (bz1 : z1.length ≤ 9223372036854775807) (hn : 0 ≤ n ∧ n ≤ 1048576) :
  Ret Tryd.prog 20 [.agg #[.string f1, .string t1, .bool n1, v1, .int .i64 p1], .int .i64 n] w fun v w' => ∃ r, v = .int .i64 (r) ∧ (r < 0 ∨ (0 ≤ r ∧ r ≤ n - (z1).length)) ∧ Chg 0 0 w w' := by
 have hv10 := hv1.fit
 refine sx_enter Tryd.func20 rfl Tryd.ntmps20 (Nat.le_of_ble_eq_true rfl) ?_
 refine sx_seq fun K1 k1 => sx_region ?_
 refine sx_box [.string f1, .string t1, .bool n1, v1, .int .i64 p1] rfl rfl rfl (fun b2 w3 eb2 sb2 fb2 cb2 => ?_)
 have zw3 := cb2.size
 refine sa rfl rfl rfl rfl ?_
 refine wl_nil (q_n (k1 _ _ ?_))
 refine sx_seq fun K4 k4 => sx_region ?_
 refine sm rfl rfl rfl rfl ?_
 refine sx_pure rfl rfl rfl (px_field rfl xfld50x0) ?_
 refine sx_pure rfl rfl rfl (px_load rfl (fb2.load1 rfl Tryd.isAgg9)) ?_
 refine sx_pure rfl rfl rfl (px_lenS rfl Tryd.underlying9) ?_
 refine sx_pure rfl rfl rfl (px_sub rfl rfl (by omega)) ?_
 refine sa rfl rfl rfl rfl ?_
 refine wl_nil (q_n (k4 _ _ ?_))
 refine sx_seq fun K5 k5 => ?_
 refine sx_seq fun K6 k6 => sx_region ?_
 refine sm rfl rfl rfl rfl ?_
 refine sx_pure rfl rfl rfl (px_lt rfl rfl) ?_
 refine wl_nil (q_n (k6 _ _ ?_))
 refine sx_condP rfl (fun h542 => ?_) (fun h542 => ?_)
 ·
  refine sx_seq fun K7 k7 => sx_region ?_
  refine sa rfl rfl rfl rfl ?_
  refine wl_nil (q_n (k7 _ _ ?_))
  refine sx_retc ?_
  refine q_r (sx_ret1 Tryd.results20 rfl ?_)
  exact ⟨_, rfl, by omega, cb2⟩
 ·
  refine sx_skip ?_
  refine q_n (k5 _ _ ?_)
  refine sx_seq fun K8 k8 => sx_region ?_
  refine sm rfl rfl rfl rfl ?_
  refine sx_pure rfl rfl rfl (px_field rfl xfld50x1) ?_
  refine sx_pure rfl rfl rfl (px_load rfl (fb2.load1 rfl Tryd.isAgg9)) ?_
  refine sx_pure rfl rfl rfl (px_lenS rfl Tryd.underlying9) ?_
  refine sx_pure rfl rfl rfl (px_sub rfl rfl (by omega)) ?_
  refine sa rfl rfl rfl rfl ?_
  refine wl_nil (q_n (k8 _ _ ?_))
  refine sx_sub (Sub.cons (t := 1) rfl (.cons (t := 2) rfl (.cons (t := 4) rfl (.nil)))) ?_
  refine sx_seq fun K9 k9 => ?_
  refine sx_seq fun K10 k10 => sx_region ?_
  refine sm rfl rfl rfl rfl ?_
  refine sx_pure rfl rfl rfl (px_lt rfl rfl) ?_
  refine wl_nil (q_n (k10 _ _ ?_))
  refine sx_condP rfl (fun h546 => ?_) (fun h546 => ?_)
  ·
   refine sx_seq fun K11 k11 => sx_region ?_
   refine sa rfl rfl rfl rfl ?_
   refine wl_nil (q_n (k11 _ _ ?_))
   refine sx_retc ?_
   refine q_r (sx_ret1 Tryd.results20 rfl ?_)
   exact ⟨_, rfl, by omega, cb2⟩
  ·
   refine sx_skip ?_
   refine q_n (k9 _ _ ?_)
   refine sx_seq fun K12 k12 => sx_region ?_
   refine sx_pure rfl rfl rfl (px_field rfl xfld50x2) ?_
   refine sx_pure rfl rfl rfl (px_load rfl (fb2.loadA (vs := [.bool n1, v1, .int .i64 p1]) (look_lit rfl) Tryd.isAgg48 Tryd.sizeOf48)) ?_
   refine sm rfl rfl rfl rfl ?_
   have f13 := hv10.ext cb2
   refine sx_call rfl rfl Tryd.call30 (c_szDec f13 (by omega) (by omega)) (fun v14 w14 p14 => ?_)
   obtain ⟨r14, rfl, hr14, c14⟩ := p14
   have zw14 := c14.size
   refine sa rfl rfl rfl rfl ?_
   refine wl_nil (q_n (k12 _ _ ?_))
   refine sx_seq fun K15 k15 => ?_
   refine sx_seq fun K16 k16 => sx_region ?_
   refine sm rfl rfl rfl rfl ?_
   refine sx_pure rfl rfl rfl (px_lt rfl rfl) ?_
   refine wl_nil (q_n (k16 _ _ ?_))
   refine sx_condP rfl (fun h550 => ?_) (fun h550 => ?_)
   ·
    refine sx_seq fun K17 k17 => sx_region ?_
    refine sa rfl rfl rfl rfl ?_
    refine wl_nil (q_n (k17 _ _ ?_))
    refine sx_retc ?_
    refine q_r (sx_ret1 Tryd.results20 rfl ?_)
    exact ⟨_, rfl, by omega, (cb2.t c14)⟩
   ·
    refine sx_skip ?_
    refine q_n (k15 _ _ ?_)
    refine sx_seq fun K18 k18 => sx_region ?_
    refine sm rfl rfl rfl rfl ?_
    refine sa rfl rfl rfl rfl ?_
    refine wl_nil (q_n (k18 _ _ ?_))
    refine sx_retc ?_
    refine sx_ret1 Tryd.results20 rfl ?_
    exact ⟨_, rfl, by omega, (cb2.t c14)⟩

theorem c_szRateS {w : World} {vt : Value} {lvt uvt : Nat} {ts : List Rt} {vvt : List Value} {n : Int} (hvt : RtS w lvt uvt vt ts vvt) (bts : ts.length ≤ 9223372036854775807) (hb : ∀ i, i < ts.length → RB (ts.getD i rt0)) (hn : 0 ≤ n ∧ n ≤ 1048576) :
  Ret Tryd.prog 13 [vt, .int .i64 n] w fun v w' => ∃ r, v = .int .i64 (r) ∧ (r < 0 ∨ (0 ≤ r ∧ r ≤ n - (ts).length)) ∧ (0 ≤ r → ∀ i, i < (ts).length → ((ts).getD i rt0).2.2.2.1.length ≤ 1048576) ∧ Chg 0 0 w w' := by
 have hvt0 := hvt.fit
 refine sx_enter Tryd.func13 rfl Tryd.ntmps13 (Nat.le_of_ble_eq_true rfl) ?_
 refine sx_seq fun K1 k1 => sx_region ?_
 refine sa rfl rfl rfl rfl ?_
 refine wl_nil (q_n (k1 _ _ ?_))
 refine sx_seq fun K2 k2 => sx_region ?_
 refine sm rfl rfl rfl rfl ?_
 refine sm rfl rfl rfl rfl ?_
 refine sx_pure rfl rfl rfl (px_len rfl Tryd.underlying22 hvt0.sv) ?_
 refine sx_pure rfl rfl rfl (px_sub rfl rfl (by omega)) ?_
 refine sa rfl rfl rfl rfl ?_
 refine wl_nil (q_n (k2 _ _ ?_))
 refine sx_seq fun K3 k3 => ?_
 refine sx_seq fun K4 k4 => sx_region ?_
 refine sm rfl rfl rfl rfl ?_
 refine sx_pure rfl rfl rfl (px_lt rfl rfl) ?_
 refine wl_nil (q_n (k4 _ _ ?_))
 refine sx_condP rfl (fun h586 => ?_) (fun h586 => ?_)
 ·
  refine sx_seq fun K5 k5 => sx_region ?_
  refine sa rfl rfl rfl rfl ?_
  refine wl_nil (q_n (k5 _ _ ?_))
  refine sx_retc ?_
  refine q_r (sx_ret1 Tryd.results13 rfl ?_)
  exact ⟨_, rfl, by omega, fun h => by omega, (Chg.refl 0 0 _)⟩
 ·
  refine sx_skip ?_
  refine q_n (k3 _ _ ?_)
  refine sx_seq fun K6 k6 => ?_
  refine sx_seq fun K7 k7 => sx_region ?_
  refine sa rfl rfl rfl rfl ?_
  refine wl_nil (q_n (k7 _ _ ?_))
  refine sx_block ?_
  refine sx_loop (fun mm aa w' => ∃ (k : Nat) (c : Int), Agr 27 [(0, vt), (1, .int .i64 c), (5, .int .i64 ↑k)] aa ∧ Chg 0 0 w w' ∧ (mm = ts.length - k) ∧ (k ≤ ts.length) ∧ (0 ≤ c ∧ c ≤ n - ↑ts.length) ∧ (∀ i, i < k → (ts.getD i rt0).2.2.2.1.length ≤ 1048576)) (_) (fun a ha => ⟨0, (n - (↑((ts).length))), ha.sub (Sub.cons (t := 0) rfl (.cons (t := 1) (look_int (t := 1) rfl (by first | omega | simp)) (.cons (t := 5) (look_int (t := 5) rfl (by first | omega | simp)) (.nil)))), Chg.refl _ _ _, rfl, by omega, by omega, fun i hi => by omega⟩) ?_
  rintro mm aa wl8 ⟨k, c, hAwl8, cwl8, hm, hk, hc, hzz⟩
  refine (show cw Tryd.prog 27 _ _ _ wl8 from ?_) aa hAwl8
  clear hAwl8
  have zwl8 := cwl8.size
  refine sx_seq fun K9 k9 => ?_
  refine sx_seq fun K10 k10 => sx_region ?_
  refine sm rfl rfl rfl rfl ?_
  refine sm rfl rfl rfl rfl ?_
  have f11 := hvt0.ext cwl8
  refine sx_pure rfl rfl rfl (px_len rfl Tryd.underlying22 f11.sv) ?_
  refine sx_pure rfl rfl rfl (px_lt rfl rfl) ?_
  refine wl_nil (q_n (k10 _ _ ?_))
  refine sx_condP rfl (fun h589 => ?_) (fun h589 => ?_)
  ·
   have hbk := hb k (by omega)
   refine sx_skip ?_
   refine q_n (k9 _ _ ?_)
   refine sx_seq fun K12 k12 => ?_
   refine sx_block ?_
   refine sx_seq fun K13 k13 => sx_region ?_
   refine sm rfl rfl rfl rfl ?_
   refine sm rfl rfl rfl rfl ?_
   refine sx_pure rfl rfl rfl (px_indexK (j := k) rfl rfl (by omega) Tryd.underlying22 Tryd.sizeOf50 f11.sv (by omega)) ?_
   refine sx_pure rfl rfl rfl (px_load rfl (f11.sv.loadA (rt_look f11.len (by omega)) Tryd.isAgg50 Tryd.sizeOf50)) ?_
   refine sm rfl rfl rfl rfl ?_
   refine sx_call rfl rfl Tryd.call20 (c_szRate (f11.nest k (by omega)) (hbk.1) (hbk.2.1) (hbk.2.2) (by omega)) (fun v14 w14 p14 => ?_)
   obtain ⟨r14, rfl, hr14, c14⟩ := p14
   have zw14 := c14.size
   refine sa rfl rfl rfl rfl ?_
   refine wl_nil (q_n (k13 _ _ ?_))
   refine sx_seq fun K15 k15 => sx_region ?_
   refine sm rfl rfl rfl rfl ?_
   refine sx_pure rfl rfl rfl (px_lt rfl rfl) ?_
   refine wl_nil (q_n (k15 _ _ ?_))
   refine sx_sub (Sub.cons (t := 0) rfl (.cons (t := 1) rfl (.cons (t := 5) rfl (.cons (t := 25) rfl (.nil))))) ?_
   refine sx_condP rfl (fun h591 => ?_) (fun h591 => ?_)
   ·
    refine sx_seq fun K16 k16 => sx_region ?_
    refine sa rfl rfl rfl rfl ?_
    refine wl_nil (q_n (k16 _ _ ?_))
    refine sx_retc ?_
    refine q_br (q_r (q_r (q_br (q_r (sx_ret1 Tryd.results13 rfl ?_)))))
    exact ⟨_, rfl, by omega, fun h => by omega, (cwl8.t c14)⟩
   ·
    refine sx_skip ?_
    refine q_bn (q_n (k12 _ _ ?_))
    refine sx_region ?_
    refine sm rfl rfl rfl rfl ?_
    refine sx_pure rfl rfl rfl (px_add rfl rfl (by omega)) ?_
    refine sa rfl rfl rfl rfl ?_
    refine wl_nil ?_
    exact fun a ha => ⟨_, by omega, (k + 1), r14, ha.sub (Sub.cons (t := 0) rfl (.cons (t := 1) (look_int (t := 1) rfl (by first | omega | simp)) (.cons (t := 5) (look_int (t := 5) rfl (by first | omega | simp)) (.nil)))), (cwl8.t c14), rfl, by omega, by omega, sz_next hzz (by omega)⟩
  ·
   refine sx_exit ?_
   refine q_e (q_e (q_bx (q_n (k6 _ _ ?_))))
   refine sx_seq fun K17 k17 => sx_region ?_
   refine sm rfl rfl rfl rfl ?_
   refine sa rfl rfl rfl rfl ?_
   refine wl_nil (q_n (k17 _ _ ?_))
   refine sx_retc ?_
   refine sx_ret1 Tryd.results13 rfl ?_
   have ek : k = ts.length := by omega
   subst ek
   exact ⟨_, rfl, by omega, fun _ => hzz, cwl8⟩

theorem c_szRates {w : World} {pv : ByteArray} {vt : Value} {lvt uvt : Nat} {ts : List Rt} {vvt : List Value} {n : Int} (hvt : RtS w lvt uvt vt ts vvt) (bpv : pv.size ≤ 9223372036854775807) (bts : ts.length ≤ 9223372036854775807) (hb : ∀ i, i < ts.length → RB (ts.getD i rt0)) (hn : 0 ≤ n ∧ n ≤ 1048576) :
  Ret Tryd.prog 4 [.agg #[.string pv, vt], .int .i64 n] w fun v w' => ∃ r, v = .int .i64 (r) ∧ (r < 0 ∨ (0 ≤ r ∧ r ≤ n - (ts).length)) ∧ (0 ≤ r → ∀ i, i < (ts).length → ((ts).getD i rt0).2.2.2.1.length ≤ 1048576) ∧ Chg 0 0 w w' := by
 have hvt0 := hvt.fit
 refine sx_enter Tryd.func4 rfl Tryd.ntmps4 (Nat.le_of_ble_eq_true rfl) ?_
 refine sx_seq fun K1 k1 => sx_region ?_
 refine sx_box [.string pv, vt] rfl rfl rfl (fun b2 w3 eb2 sb2 fb2 cb2 => ?_)
 have zw3 := cb2.size
 refine sa rfl rfl rfl rfl ?_
 refine wl_nil (q_n (k1 _ _ ?_))
 refine sx_seq fun K4 k4 => sx_region ?_
 refine sm rfl rfl rfl rfl ?_
 refine sx_pure rfl rfl rfl (px_field rfl xfld24x0) ?_
 refine sx_pure rfl rfl rfl (px_load rfl (fb2.load1 rfl Tryd.isAgg9)) ?_
 refine sx_pure rfl rfl rfl (px_lenS rfl Tryd.underlying9) ?_
 refine sx_pure rfl rfl rfl (px_sub rfl rfl (by omega)) ?_
 refine sa rfl rfl rfl rfl ?_
 refine wl_nil (q_n (k4 _ _ ?_))
 refine sx_seq fun K5 k5 => ?_
 refine sx_seq fun K6 k6 => sx_region ?_
 refine sm rfl rfl rfl rfl ?_
 refine sx_pure rfl rfl rfl (px_lt rfl rfl) ?_
 refine wl_nil (q_n (k6 _ _ ?_))
 refine sx_condP rfl (fun h600 => ?_) (fun h600 => ?_)
 ·
  refine sx_seq fun K7 k7 => sx_region ?_
  refine sa rfl rfl rfl rfl ?_
  refine wl_nil (q_n (k7 _ _ ?_))
  refine sx_retc ?_
  refine q_r (sx_ret1 Tryd.results4 rfl ?_)
  exact ⟨_, rfl, by omega, fun h => by omega, cb2⟩
 ·
  refine sx_skip ?_
  refine q_n (k5 _ _ ?_)
  refine sx_seq fun K8 k8 => sx_region ?_
  refine sx_pure rfl rfl rfl (px_field rfl xfld24x1) ?_
  refine sx_pure rfl rfl rfl (px_load rfl (fb2.load1 rfl Tryd.isAgg22)) ?_
  refine sm rfl rfl rfl rfl ?_
  have f9 := hvt0.ext cb2
  refine sx_call rfl rfl Tryd.call13 (c_szRateS f9 (by omega) (by assumption) (by omega)) (fun v10 w10 p10 => ?_)
  obtain ⟨r10, rfl, hr10, hzz10, c10⟩ := p10
  have zw10 := c10.size
  have hzs := hzz10
  refine sa rfl rfl rfl rfl ?_
  refine wl_nil (q_n (k8 _ _ ?_))
  refine sx_sub (Sub.cons (t := 1) rfl (.cons (t := 4) rfl (.nil))) ?_
  refine sx_seq fun K11 k11 => ?_
  refine sx_seq fun K12 k12 => sx_region ?_
  refine sm rfl rfl rfl rfl ?_
  refine sx_pure rfl rfl rfl (px_lt rfl rfl) ?_
  refine wl_nil (q_n (k12 _ _ ?_))
  refine sx_condP rfl (fun h604 => ?_) (fun h604 => ?_)
  ·
   refine sx_seq fun K13 k13 => sx_region ?_
   refine sa rfl rfl rfl rfl ?_
   refine wl_nil (q_n (k13 _ _ ?_))
   refine sx_retc ?_
   refine q_r (sx_ret1 Tryd.results4 rfl ?_)
   exact ⟨_, rfl, by omega, fun h => by omega, (cb2.t c10)⟩
  ·
   refine sx_skip ?_
   refine q_n (k11 _ _ ?_)
   refine sx_seq fun K14 k14 => sx_region ?_
   refine sm rfl rfl rfl rfl ?_
   refine sa rfl rfl rfl rfl ?_
   refine wl_nil (q_n (k14 _ _ ?_))
   refine sx_retc ?_
   refine sx_ret1 Tryd.results4 rfl ?_
   exact ⟨_, rfl, by omega, fun h => hzs h, (cb2.t c10)⟩

theorem c_toIntS {w : World} {va : Value} {lva uva : Nat} {zs : List Int} (hva : Sl w lva uva va (zs)) (h63 : zs.length ≤ 1048576) :
  Ret Tryd.prog 51 [va] w fun v w' => ∃ s, v = s ∧ OwnI w' w.heap.size w'.heap.size s intT (zs) ∧ Chg 0 0 w w' := by
 have hva0 := hva.fit
 refine sx_enter Tryd.func51 rfl Tryd.ntmps51 (Nat.le_of_ble_eq_true rfl) ?_
 refine sx_seq fun K1 k1 => sx_region ?_
 refine sa rfl rfl rfl rfl ?_
 refine wl_nil (q_n (k1 _ _ ?_))
 refine sx_seq fun K2 k2 => sx_region ?_
 refine sm rfl rfl rfl rfl ?_
 refine sx_pure rfl rfl rfl (px_len rfl Tryd.underlying44 hva0) ?_
 refine sx_make (c := (zs).length) rfl xelt44 (rfl) (rfl) (by omega) (by unfold maxLen; omega) (fun s3 ws3 fs3 cs3 ls3 => ?_)
 have ns3 := fs3.made
 have zws3 := cs3.size
 refine sa rfl rfl rfl rfl ?_
 refine wl_nil (q_n (k2 _ _ ?_))
 refine sx_seq fun K4 k4 => ?_
 refine sx_seq fun K5 k5 => sx_region ?_
 refine sa rfl rfl rfl rfl ?_
 refine wl_nil (q_n (k5 _ _ ?_))
 refine sx_block ?_
 refine sx_loop (fun mm aa w' => ∃ (k : Nat) (os : List Int), Agr 22 [(0, va), (3, s3), (4, .int .i64 ↑k)] aa ∧ Chg w.heap.size ws3.heap.size ws3 w' ∧ Own w' w.heap.size ws3.heap.size s3 3 os.length 1 (os.map (Value.int .i64)) ∧ (mm = zs.length - k) ∧ (k ≤ zs.length) ∧ (os.length = zs.length) ∧ (os.take k = zs.take k)) (_) (fun a ha => ⟨0, List.replicate zs.length 0, ha.sub (Sub.cons (t := 0) rfl (.cons (t := 3) rfl (.cons (t := 4) (look_int (t := 4) rfl (by first | omega | simp)) (.nil)))), Chg.refl _ _ _, (ns3.mono (by omega) (by omega)), rfl, by omega, by simp, by simp⟩) ?_
 rintro mm aa wl6 ⟨k, os, hAwl6, cwl6, hs_s3, hm, hk, ho, he⟩
 refine (show cw Tryd.prog 22 _ _ _ wl6 from ?_) aa hAwl6
 clear hAwl6
 have zwl6 := cwl6.size
 refine sx_seq fun K7 k7 => ?_
 refine sx_seq fun K8 k8 => sx_region ?_
 refine sm rfl rfl rfl rfl ?_
 refine sm rfl rfl rfl rfl ?_
 have f9 := hva0.ext cs3
 have f10 := f9.chg cwl6 (by omega)
 refine sx_pure rfl rfl rfl (px_len rfl Tryd.underlying44 f10) ?_
 refine sx_pure rfl rfl rfl (px_lt rfl rfl) ?_
 refine wl_nil (q_n (k8 _ _ ?_))
 refine sx_condP rfl (fun h203 => ?_) (fun h203 => ?_)
 ·
  refine sx_skip ?_
  refine q_n (k7 _ _ ?_)
  refine sx_seq fun K11 k11 => ?_
  refine sx_block ?_
  refine sx_region ?_
  refine sm rfl rfl rfl rfl ?_
  refine sm rfl rfl rfl rfl ?_
  refine sm rfl rfl rfl rfl ?_
  refine sm rfl rfl rfl rfl ?_
  refine sx_pure rfl rfl rfl (px_index1 (j := k) rfl rfl (by omega) Tryd.underlying44 Tryd.sizeOf3 f10 (by omega)) ?_
  refine sx_pure rfl rfl rfl (px_load rfl (f10.load1 (at_int (by omega)) Tryd.isAgg3)) ?_
  refine sx_pure rfl rfl rfl (px_index1 (j := k) rfl rfl (by omega) Tryd.underlying44 Tryd.sizeOf3 hs_s3.sv (by omega)) ?_
  refine sx_storeO rfl rfl hs_s3 (by simp only [List.length_map]; omega) Tryd.sizeOf3 rfl (fun w12 sw12 fw12 cw12 => ?_)
  have zw12 := cw12.size
  have nw12 := fw12.set
  refine wl_nil ?_
  refine q_bn (q_n (k11 _ _ ?_))
  refine sx_region ?_
  refine sm rfl rfl rfl rfl ?_
  refine sx_pure rfl rfl rfl (px_add rfl rfl (by omega)) ?_
  refine sa rfl rfl rfl rfl ?_
  refine wl_nil ?_
  have q13 := Chg.step (l := w.heap.size) (h := ws3.heap.size) cwl6 cw12 (by omega)
  exact fun a ha => ⟨_, by omega, (k + 1), (os.set k (zs.getD k 0)), ha.sub (Sub.cons (t := 0) rfl (.cons (t := 3) rfl (.cons (t := 4) (look_int (t := 4) rfl (by first | omega | simp)) (.nil)))), q13, (nw12.mono (by omega) (by omega)), rfl, by omega, by simp [ho], take_set_succ he (by omega) (by omega)⟩
 ·
  refine sx_exit ?_
  refine q_e (q_e (q_bx (q_n (k4 _ _ ?_))))
  refine sx_seq fun K14 k14 => sx_region ?_
  refine sm rfl rfl rfl rfl ?_
  refine sa rfl rfl rfl rfl ?_
  refine wl_nil (q_n (k14 _ _ ?_))
  refine sx_retc ?_
  refine sx_ret1 Tryd.results51 rfl ?_
  have e1 : k = zs.length := by omega
  rw [e1, List.take_length, List.take_of_length_le (by omega)] at he
  subst he
  have q15 := Chg.step (l := 0) (h := 0) (Chg.zero (l := 0) (h := 0) cs3) cwl6 (by omega)
  exact ⟨_, rfl, Own.mono hs_s3 (by omega) (by omega), q15⟩

theorem c_toSigned {w : World} {n1 : Bool} {v1 : Value} {lv1 uv1 : Nat} {z1 : List Int} (hv1 : Sl w lv1 uv1 v1 (z1)) (bz1 : z1.length ≤ 1048576) :
  Ret Tryd.prog 43 [.agg #[.bool n1, v1]] w fun v w' => ∃ s1, v = .agg #[.bool (n1), s1] ∧ OwnI w' w.heap.size w'.heap.size s1 intT (z1) ∧ Chg 0 0 w w' := by
 have hv10 := hv1.fit
 refine sx_enter Tryd.func43 rfl Tryd.ntmps43 (Nat.le_of_ble_eq_true rfl) ?_
 refine sx_seq fun K1 k1 => sx_region ?_
 refine sx_box [.bool n1, v1] rfl rfl rfl (fun b2 w3 eb2 sb2 fb2 cb2 => ?_)
 have zw3 := cb2.size
 refine sx_alloc [.bool false, (.slice none 0 0)] rfl Tryd.zeroValue53 rfl (fun b4 w5 eb4 sb4 fb4 cb4 => ?_)
 have zw5 := cb4.size
 refine wl_nil (q_n (k1 _ _ ?_))
 refine sx_seq fun K6 k6 => sx_region ?_
 refine sx_alloc [.bool false, (.slice none 0 0)] rfl Tryd.zeroValue53 rfl (fun b7 w8 eb7 sb7 fb7 cb7 => ?_)
 have zw8 := cb7.size
 refine wl_nil (q_n (k6 _ _ ?_))
 refine sx_seq fun K9 k9 => sx_region ?_
 refine sx_pure rfl rfl rfl (px_field rfl xfld46x0) ?_
 have f10 := fb2.ext cb4
 have f11 := f10.ext cb7
 refine sx_pure rfl rfl rfl (px_load rfl (f11.load1 rfl Tryd.isAgg4)) ?_
 refine sx_pure rfl rfl rfl (px_field rfl xfld53x0) ?_
 refine sx_store (vs := [.bool n1]) rfl rfl fb7 rfl Tryd.sizeOf4 (Nat.le_of_ble_eq_true rfl) (one_cons rfl one_nil) (fun w12 sw12 fw12 cw12 => ?_)
 have zw12 := cw12.size
 have gw12 : Blk w12 b7 [.bool n1, (.slice none 0 0)] 53 := fw12
 refine wl_nil (q_n (k9 _ _ ?_))
 refine sx_seq fun K13 k13 => sx_region ?_
 refine sx_pure rfl rfl rfl (px_field rfl xfld46x1) ?_
 have f14 := f11.chg cw12 (by omega)
 refine sx_pure rfl rfl rfl (px_load rfl (f14.load1 rfl Tryd.isAgg44)) ?_
 have f15 := hv10.ext cb2
 have f16 := f15.ext cb4
 have f17 := f16.ext cb7
 have f18 := f17.chg cw12 (by omega)
 refine sx_call rfl rfl Tryd.call51 (c_toIntS f18 (by omega)) (fun v19 w19 p19 => ?_)
 obtain ⟨s19, rfl, os_19, c19⟩ := p19
 have zw19 := c19.size
 refine sx_pure rfl rfl rfl (px_field rfl xfld53x1) ?_
 have f21 := gw12.ext c19
 refine sx_store (vs := [v19]) rfl rfl f21 (cells_one os_19.one) Tryd.sizeOf44 (Nat.le_of_ble_eq_true rfl) (one_cons os_19.one one_nil) (fun w20 sw20 fw20 cw20 => ?_)
 have zw20 := cw20.size
 have gw20 : Blk w20 b7 [.bool n1, v19] 53 := fw20
 refine wl_nil (q_n (k13 _ _ ?_))
 refine sx_seq fun K22 k22 => sx_region ?_
 refine sx_pure rfl rfl rfl (px_load rfl (gw20.loadA (vs := [.bool n1, v19]) (look_lit rfl) Tryd.isAgg53 Tryd.sizeOf53)) ?_
 have f24 := fb4.ext cb7
 have f25 := f24.chg cw12 (by omega)
 have f26 := f25.ext c19
 have f27 := f26.chg cw20 (by omega)
 have f28 := os_19.chg cw20 (by omega)
 refine sx_store (vs := [.bool n1, v19]) rfl rfl f27 rfl Tryd.sizeOf53 (Nat.le_of_ble_eq_true rfl) (one_cons rfl (one_cons f28.one one_nil)) (fun w23 sw23 fw23 cw23 => ?_)
 have zw23 := cw23.size
 have gw23 : Blk w23 b4 [.bool n1, v19] 53 := fw23
 refine wl_nil (q_n (k22 _ _ ?_))
 refine sx_retc ?_
 refine sx_ret1 Tryd.results43 ⟨_, rfl, gw23.loadA (vs := [.bool n1, v19]) (look_lit rfl) Tryd.isAgg53 Tryd.sizeOf53⟩ ?_
 have q29 := Chg.step (l := 0) (h := 0) (Chg.zero (l := 0) (h := 0) ((cb2.t cb4).t cb7)) cw12 (by omega)
 have q30 := Chg.step (l := 0) (h := 0) q29 c19 (by omega)
 have q31 := Chg.step (l := 0) (h := 0) q30 cw20 (by omega)
 have q32 := Chg.step (l := 0) (h := 0) q31 cw23 (by omega)
 have f33 := f28.chg cw23 (by omega)
 exact ⟨_, rfl, Own.mono f33 (by omega) (by omega), q32⟩

theorem c_toDec {w : World} {n1 : Bool} {v1 : Value} {lv1 uv1 : Nat} {z1 : List Int} {p1 : Int} (hv1 : Sl w lv1 uv1 v1 (z1)) (bz1 : z1.length ≤ 1048576) :
  Ret Tryd.prog 34 [.agg #[.bool n1, v1, .int .i64 p1]] w fun v w' => ∃ s1, v = .agg #[.bool (n1), s1, .int .i64 (p1)] ∧ OwnI w' w.heap.size w'.heap.size s1 intT (z1) ∧ Chg 0 0 w w' := by
 have hv10 := hv1.fit
 refine sx_enter Tryd.func34 rfl Tryd.ntmps34 (Nat.le_of_ble_eq_true rfl) ?_
 refine sx_seq fun K1 k1 => sx_region ?_
 refine sx_box [.bool n1, v1, .int .i64 p1] rfl rfl rfl (fun b2 w3 eb2 sb2 fb2 cb2 => ?_)
 have zw3 := cb2.size
 refine sx_alloc [.bool false, (.slice none 0 0), .int .i64 0] rfl Tryd.zeroValue55 rfl (fun b4 w5 eb4 sb4 fb4 cb4 => ?_)
 have zw5 := cb4.size
 refine wl_nil (q_n (k1 _ _ ?_))
 refine sx_seq fun K6 k6 => sx_region ?_
 refine sx_alloc [.bool false, (.slice none 0 0), .int .i64 0] rfl Tryd.zeroValue55 rfl (fun b7 w8 eb7 sb7 fb7 cb7 => ?_)
 have zw8 := cb7.size
 refine wl_nil (q_n (k6 _ _ ?_))
 refine sx_seq fun K9 k9 => sx_region ?_
 refine sx_pure rfl rfl rfl (px_field rfl xfld48x0) ?_
 have f10 := fb2.ext cb4
 have f11 := f10.ext cb7
 refine sx_pure rfl rfl rfl (px_load rfl (f11.loadA (vs := [.bool n1, v1]) (look_lit rfl) Tryd.isAgg46 Tryd.sizeOf46)) ?_
 have f12 := hv10.ext cb2
 have f13 := f12.ext cb4
 have f14 := f13.ext cb7
 refine sx_call rfl rfl Tryd.call43 (c_toSigned f14 (by omega)) (fun v15 w15 p15 => ?_)
 obtain ⟨s115, rfl, os1_15, c15⟩ := p15
 have zw15 := c15.size
 refine sx_pure rfl rfl rfl (px_field rfl xfld55x0) ?_
 have f17 := fb7.ext c15
 refine sx_store (vs := [.bool n1, s115]) rfl rfl f17 rfl Tryd.sizeOf53 (Nat.le_of_ble_eq_true rfl) (one_cons rfl (one_cons os1_15.one one_nil)) (fun w16 sw16 fw16 cw16 => ?_)
 have zw16 := cw16.size
 have gw16 : Blk w16 b7 [.bool n1, s115, .int .i64 0] 55 := fw16
 refine wl_nil (q_n (k9 _ _ ?_))
 refine sx_seq fun K18 k18 => sx_region ?_
 refine sx_pure rfl rfl rfl (px_field rfl xfld48x1) ?_
 have f19 := f11.ext c15
 have f20 := f19.chg cw16 (by omega)
 refine sx_pure rfl rfl rfl (px_load rfl (f20.load1 rfl Tryd.isAgg3)) ?_
 refine sx_pure rfl rfl rfl (px_field rfl xfld55x1) ?_
 refine sx_store (vs := [.int .i64 p1]) rfl rfl gw16 rfl Tryd.sizeOf3 (Nat.le_of_ble_eq_true rfl) (one_cons rfl one_nil) (fun w21 sw21 fw21 cw21 => ?_)
 have zw21 := cw21.size
 have gw21 : Blk w21 b7 [.bool n1, s115, .int .i64 p1] 55 := fw21
 refine wl_nil (q_n (k18 _ _ ?_))
 refine sx_seq fun K22 k22 => sx_region ?_
 refine sx_pure rfl rfl rfl (px_load rfl (gw21.loadA (vs := [.bool n1, s115, .int .i64 p1]) (look_lit rfl) Tryd.isAgg55 Tryd.sizeOf55)) ?_
 have f24 := fb4.ext cb7
 have f25 := f24.ext c15
 have f26 := f25.chg cw16 (by omega)
 have f27 := f26.chg cw21 (by omega)
 have f28 := os1_15.chg cw16 (by omega)
 have f29 := f28.chg cw21 (by omega)
 refine sx_store (vs := [.bool n1, s115, .int .i64 p1]) rfl rfl f27 rfl Tryd.sizeOf55 (Nat.le_of_ble_eq_true rfl) (one_cons rfl (one_cons f29.one (one_cons rfl one_nil))) (fun w23 sw23 fw23 cw23 => ?_)
 have zw23 := cw23.size
 have gw23 : Blk w23 b4 [.bool n1, s115, .int .i64 p1] 55 := fw23
 refine wl_nil (q_n (k22 _ _ ?_))
 refine sx_retc ?_
 refine sx_ret1 Tryd.results34 ⟨_, rfl, gw23.loadA (vs := [.bool n1, s115, .int .i64 p1]) (look_lit rfl) Tryd.isAgg55 Tryd.sizeOf55⟩ ?_
 have q30 := Chg.step (l := 0) (h := 0) (Chg.zero (l := 0) (h := 0) (((cb2.t cb4).t cb7).t c15)) cw16 (by omega)
 have q31 := Chg.step (l := 0) (h := 0) q30 cw21 (by omega)
 have q32 := Chg.step (l := 0) (h := 0) q31 cw23 (by omega)
 have f33 := f29.chg cw23 (by omega)
 exact ⟨_, rfl, Own.mono f33 (by omega) (by omega), q32⟩

theorem c_toRate {w : World} {f1 : ByteArray} {t1 : ByteArray} {n1 : Bool} {v1 : Value} {lv1 uv1 : Nat} {z1 : List Int} {p1 : Int} (hv1 : Sl w lv1 uv1 v1 (z1)) (bz1 : z1.length ≤ 1048576) :
  Ret Tryd.prog 24 [.agg #[.string f1, .string t1, .bool n1, v1, .int .i64 p1]] w fun v w' => ∃ s, v = .agg #[.string (f1), .string (t1), .bool (n1), s, .int .i64 (p1)] ∧ OwnI w' w.heap.size w'.heap.size s intT (z1) ∧ Chg 0 0 w w' := by
 have hv10 := hv1.fit
 refine sx_enter Tryd.func24 rfl Tryd.ntmps24 (Nat.le_of_ble_eq_true rfl) ?_
 refine sx_seq fun K1 k1 => sx_region ?_
 refine sx_box [.string f1, .string t1, .bool n1, v1, .int .i64 p1] rfl rfl rfl (fun b2 w3 eb2 sb2 fb2 cb2 => ?_)
 have zw3 := cb2.size
 refine sx_alloc [.string (⟨#[]⟩), .string (⟨#[]⟩), .bool false, (.slice none 0 0), .int .i64 0] rfl Tryd.zeroValue57 rfl (fun b4 w5 eb4 sb4 fb4 cb4 => ?_)
 have zw5 := cb4.size
 refine wl_nil (q_n (k1 _ _ ?_))
 refine sx_seq fun K6 k6 => sx_region ?_
 refine sx_alloc [.string (⟨#[]⟩), .string (⟨#[]⟩), .bool false, (.slice none 0 0), .int .i64 0] rfl Tryd.zeroValue57 rfl (fun b7 w8 eb7 sb7 fb7 cb7 => ?_)
 have zw8 := cb7.size
 refine wl_nil (q_n (k6 _ _ ?_))
 refine sx_seq fun K9 k9 => sx_region ?_
 refine sx_pure rfl rfl rfl (px_field rfl xfld50x0) ?_
 have f10 := fb2.ext cb4
 have f11 := f10.ext cb7
 refine sx_pure rfl rfl rfl (px_load rfl (f11.load1 rfl Tryd.isAgg9)) ?_
 refine sx_pure rfl rfl rfl (px_field rfl xfld57x0) ?_
 refine sx_store (vs := [.string f1]) rfl rfl fb7 rfl Tryd.sizeOf9 (Nat.le_of_ble_eq_true rfl) (one_cons rfl one_nil) (fun w12 sw12 fw12 cw12 => ?_)
 have zw12 := cw12.size
 have gw12 : Blk w12 b7 [.string f1, .string (⟨#[]⟩), .bool false, (.slice none 0 0), .int .i64 0] 57 := fw12
 refine wl_nil (q_n (k9 _ _ ?_))
 refine sx_seq fun K13 k13 => sx_region ?_
 refine sx_pure rfl rfl rfl (px_field rfl xfld50x1) ?_
 have f14 := f11.chg cw12 (by omega)
 refine sx_pure rfl rfl rfl (px_load rfl (f14.load1 rfl Tryd.isAgg9)) ?_
 refine sx_pure rfl rfl rfl (px_field rfl xfld57x1) ?_
 refine sx_store (vs := [.string t1]) rfl rfl gw12 rfl Tryd.sizeOf9 (Nat.le_of_ble_eq_true rfl) (one_cons rfl one_nil) (fun w15 sw15 fw15 cw15 => ?_)
 have zw15 := cw15.size
 have gw15 : Blk w15 b7 [.string f1, .string t1, .bool false, (.slice none 0 0), .int .i64 0] 57 := fw15
 refine wl_nil (q_n (k13 _ _ ?_))
 refine sx_seq fun K16 k16 => sx_region ?_
 refine sx_pure rfl rfl rfl (px_field rfl xfld50x2) ?_
 have f17 := f14.chg cw15 (by omega)
 refine sx_pure rfl rfl rfl (px_load rfl (f17.loadA (vs := [.bool n1, v1, .int .i64 p1]) (look_lit rfl) Tryd.isAgg48 Tryd.sizeOf48)) ?_
 have f18 := hv10.ext cb2
 have f19 := f18.ext cb4
 have f20 := f19.ext cb7
 have f21 := f20.chg cw12 (by omega)
 have f22 := f21.chg cw15 (by omega)
 refine sx_call rfl rfl Tryd.call34 (c_toDec f22 (by omega)) (fun v23 w23 p23 => ?_)
 obtain ⟨s123, rfl, os1_23, c23⟩ := p23
 have zw23 := c23.size
 refine sx_pure rfl rfl rfl (px_field rfl xfld57x2) ?_
 have f25 := gw15.ext c23
 refine sx_store (vs := [.bool n1, s123, .int .i64 p1]) rfl rfl f25 rfl Tryd.sizeOf55 (Nat.le_of_ble_eq_true rfl) (one_cons rfl (one_cons os1_23.one (one_cons rfl one_nil))) (fun w24 sw24 fw24 cw24 => ?_)
 have zw24 := cw24.size
 have gw24 : Blk w24 b7 [.string f1, .string t1, .bool n1, s123, .int .i64 p1] 57 := fw24
 refine wl_nil (q_n (k16 _ _ ?_))
 refine sx_seq fun K26 k26 => sx_region ?_
 refine sx_pure rfl rfl rfl (px_load rfl (gw24.loadA (vs := [.string f1, .string t1, .bool n1, s123, .int .i64 p1]) (look_lit rfl) Tryd.isAgg57 Tryd.sizeOf57)) ?_
 have f28 := fb4.ext cb7
 have f29 := f28.chg cw12 (by omega)
 have f30 := f29.chg cw15 (by omega)
 have f31 := f30.ext c23
 have f32 := f31.chg cw24 (by omega)
 have f33 := os1_23.chg cw24 (by omega)
 refine sx_store (vs := [.string f1, .string t1, .bool n1, s123, .int .i64 p1]) rfl rfl f32 rfl Tryd.sizeOf57 (Nat.le_of_ble_eq_true rfl) (one_cons rfl (one_cons rfl (one_cons rfl (one_cons f33.one (one_cons rfl one_nil))))) (fun w27 sw27 fw27 cw27 => ?_)
 have zw27 := cw27.size
 have gw27 : Blk w27 b4 [.string f1, .string t1, .bool n1, s123, .int .i64 p1] 57 := fw27
 refine wl_nil (q_n (k26 _ _ ?_))
 refine sx_sub (Sub.cons (t := 2) rfl (.nil)) ?_
 refine sx_retc ?_
 refine sx_ret1 Tryd.results24 ⟨_, rfl, gw27.loadA (vs := [.string f1, .string t1, .bool n1, s123, .int .i64 p1]) (look_lit rfl) Tryd.isAgg57 Tryd.sizeOf57⟩ ?_
 have q34 := Chg.step (l := 0) (h := 0) (Chg.zero (l := 0) (h := 0) ((cb2.t cb4).t cb7)) cw12 (by omega)
 have q35 := Chg.step (l := 0) (h := 0) q34 cw15 (by omega)
 have q36 := Chg.step (l := 0) (h := 0) q35 c23 (by omega)
 have q37 := Chg.step (l := 0) (h := 0) q36 cw24 (by omega)
 have q38 := Chg.step (l := 0) (h := 0) q37 cw27 (by omega)
 have f39 := f33.chg cw27 (by omega)
 exact ⟨_, rfl, (Own.mono f39 (by omega) (by omega)), q38⟩

theorem c_toRateS {w : World} {vt : Value} {lvt uvt : Nat} {ts : List Rt} {vvt : List Value} (hvt : RtS w lvt uvt vt ts vvt) (h63 : ts.length ≤ 1048576) (hzz : ∀ i, i < ts.length → (ts.getD i rt0).2.2.2.1.length ≤ 1048576) :
  Ret Tryd.prog 15 [vt] w fun v w' => ∃ s us, v = s ∧ RtO w' (w.heap.size) (w'.heap.size) s 57 intT (ts) us ∧ Chg 0 0 w w' := by
 have hvt0 := hvt.fit
 refine sx_enter Tryd.func15 rfl Tryd.ntmps15 (Nat.le_of_ble_eq_true rfl) ?_
 refine sx_seq fun K1 k1 => sx_region ?_
 refine sa rfl rfl rfl rfl ?_
 refine wl_nil (q_n (k1 _ _ ?_))
 refine sx_seq fun K2 k2 => sx_region ?_
 refine sm rfl rfl rfl rfl ?_
 refine sx_pure rfl rfl rfl (px_len rfl Tryd.underlying22 hvt0.sv) ?_
 refine sx_make (c := (ts).length) rfl xelt28 (rfl) (rfl) (by omega) (by unfold maxLen; omega) (fun s3 ws3 fs3 cs3 ls3 => ?_)
 have zws3 := cs3.size
 refine sa rfl rfl rfl rfl ?_
 refine wl_nil (q_n (k2 _ _ ?_))
 refine sx_seq fun K4 k4 => ?_
 refine sx_seq fun K5 k5 => sx_region ?_
 refine sa rfl rfl rfl rfl ?_
 refine wl_nil (q_n (k5 _ _ ?_))
 refine sx_block ?_
 obtain ⟨xs0, hxs0⟩ : ∃ xs, Own ws3 w.heap.size ws3.heap.size s3 57 ts.length 5 xs := ⟨_, fs3⟩
 refine sx_loop (fun mm aa w' => ∃ (k : Nat) (us : List Value) (xs : List Value) (r : Nat → Nat), Agr 23 [(0, vt), (3, s3), (4, .int .i64 ↑k)] aa ∧ Chg w.heap.size ws3.heap.size ws3 w' ∧ Own w' w.heap.size ws3.heap.size s3 57 ts.length 5 (xs) ∧ (mm = ts.length - k) ∧ (k ≤ ts.length) ∧ (us.length = k) ∧ (xs.take (k * 5) = rtCells (ts.take k) us) ∧ (ws3.heap.size ≤ r 0) ∧ (∀ i, i < k → r i ≤ r (i + 1)) ∧ (r k ≤ w'.heap.size) ∧ (∀ i, i < k → OwnI w' (r i) (r (i + 1)) (us.getD i vz) intT (ts.getD i rt0).2.2.2.1)) (_) (fun a ha => ⟨0, [], xs0, (fun _ => ws3.heap.size), ha.sub (Sub.cons (t := 0) rfl (.cons (t := 3) rfl (.cons (t := 4) (look_int (t := 4) rfl (by first | omega | simp)) (.nil)))), Chg.refl _ _ _, hxs0, rfl, by omega, rfl, by simp [rtCells], (show ws3.heap.size ≤ ws3.heap.size from by omega), fun i hi => by omega, Nat.le_refl _, fun i hi => by omega⟩) ?_
 rintro mm aa wl7 ⟨k, us, xs, r, hAwl7, cwl7, hs_s3, hm, hk, hul, hxt, hr0, hrm, hrk, hne⟩
 refine (show cw Tryd.prog 23 _ _ _ wl7 from ?_) aa hAwl7
 clear hAwl7
 have zwl7 := cwl7.size
 refine sx_seq fun K8 k8 => ?_
 refine sx_seq fun K9 k9 => sx_region ?_
 refine sm rfl rfl rfl rfl ?_
 refine sm rfl rfl rfl rfl ?_
 have f10 := hvt0.ext cs3
 have f11 := f10.chg cwl7 (by omega)
 refine sx_pure rfl rfl rfl (px_len rfl Tryd.underlying22 f11.sv) ?_
 refine sx_pure rfl rfl rfl (px_lt rfl rfl) ?_
 refine wl_nil (q_n (k9 _ _ ?_))
 refine sx_condP rfl (fun h571 => ?_) (fun h571 => ?_)
 ·
  refine sx_skip ?_
  refine q_n (k8 _ _ ?_)
  refine sx_seq fun K12 k12 => ?_
  refine sx_block ?_
  have hxl := (hs_s3).1
  refine sx_region ?_
  refine sm rfl rfl rfl rfl ?_
  refine sm rfl rfl rfl rfl ?_
  refine sm rfl rfl rfl rfl ?_
  refine sm rfl rfl rfl rfl ?_
  refine sx_pure rfl rfl rfl (px_indexK (j := k) rfl rfl (by omega) Tryd.underlying22 Tryd.sizeOf50 f11.sv (by omega)) ?_
  refine sx_pure rfl rfl rfl (px_load rfl (f11.sv.loadA (rt_look f11.len (by omega)) Tryd.isAgg50 Tryd.sizeOf50)) ?_
  refine sx_call rfl rfl Tryd.call24 (c_toRate (f11.nest k (by omega)) (hzz k (by omega))) (fun v13 w13 p13 => ?_)
  obtain ⟨s13, rfl, os_13, c13⟩ := p13
  have zw13 := c13.size
  have f14 := hs_s3.ext c13
  refine sx_pure rfl rfl rfl (px_indexK (j := k) rfl rfl (by omega) Tryd.underlying28 Tryd.sizeOf57 f14.sv (by omega)) ?_
  refine sx_storeOA (vs := [.string ((ts.getD k rt0).1), .string ((ts.getD k rt0).2.1), .bool ((ts.getD k rt0).2.2.1), s13, .int .i64 ((ts.getD k rt0).2.2.2.2)]) rfl rfl f14 rfl (by simp) (by simp only [List.length_cons, List.length_nil]; omega) Tryd.sizeOf57 (one_cons rfl (one_cons rfl (one_cons rfl (one_cons os_13.one (one_cons rfl one_nil))))) (fun w15 sw15 fw15 cw15 => ?_)
  have zw15 := cw15.size
  refine wl_nil ?_
  refine q_bn (q_n (k12 _ _ ?_))
  refine sx_sub (Sub.cons (t := 0) rfl (.cons (t := 3) rfl (.cons (t := 4) rfl (.nil)))) ?_
  refine sx_region ?_
  refine sm rfl rfl rfl rfl ?_
  refine sx_pure rfl rfl rfl (px_add rfl rfl (by omega)) ?_
  refine sa rfl rfl rfl rfl ?_
  refine wl_nil ?_
  have q16 := Chg.step (l := w.heap.size) (h := ws3.heap.size) (Chg.zero (l := w.heap.size) (h := ws3.heap.size) c13) cw15 (by omega)
  have f17 := os_13.chg cw15 (by omega)
  have q18 := Chg.step (l := w.heap.size) (h := ws3.heap.size) cwl7 c13 (by omega)
  have q19 := Chg.step (l := w.heap.size) (h := ws3.heap.size) q18 cw15 (by omega)
  exact fun a ha => ⟨_, by omega, (k + 1), (us ++ [s13]), ((xs).take (k * 5) ++ [.string ((ts.getD k rt0).1), .string ((ts.getD k rt0).2.1), .bool ((ts.getD k rt0).2.2.1), s13, .int .i64 ((ts.getD k rt0).2.2.2.2)] ++ (xs).drop (k * 5 + 5)), (rset r k w15.heap.size), ha.sub (Sub.cons (t := 0) rfl (.cons (t := 3) rfl (.cons (t := 4) (look_int (t := 4) rfl (by first | omega | simp)) (.nil)))), q19, (fw15.mono (by omega) (by omega)), rfl, by omega, by rw [List.length_append, hul]; rfl, rt_put (by omega) hul (by omega) hxt rfl, by rw [rset_le (Nat.zero_le _)]; exact hr0, rset_mono hrm (by omega), by rw [rset_at]; exact Nat.le_refl _, nesto_next hul hrm hne q16 hr0 (Own.mono f17 (by omega) (by omega))⟩
 ·
  refine sx_exit ?_
  refine q_e (q_e (q_bx (q_n (k4 _ _ ?_))))
  refine sx_seq fun K20 k20 => sx_region ?_
  refine sm rfl rfl rfl rfl ?_
  refine sa rfl rfl rfl rfl ?_
  refine wl_nil (q_n (k20 _ _ ?_))
  refine sx_retc ?_
  refine sx_ret1 Tryd.results15 rfl ?_
  have ek : k = ts.length := by omega
  subst ek
  have hO := hs_s3
  have q21 := Chg.step (l := 0) (h := 0) (Chg.zero (l := 0) (h := 0) cs3) cwl7 (by omega)
  exact ⟨_, us, rfl, rto_copied hO hul hxt hr0 hrm hrk hne (by omega), q21⟩

theorem c_toRates {w : World} {pv : ByteArray} {vt : Value} {lvt uvt : Nat} {ts : List Rt} {vvt : List Value} (hvt : RtS w lvt uvt vt ts vvt) (h63 : ts.length ≤ 1048576) (hzz : ∀ i, i < ts.length → (ts.getD i rt0).2.2.2.1.length ≤ 1048576) :
  Ret Tryd.prog 6 [.agg #[.string pv, vt]] w fun v w' => ∃ s us, v = .agg #[.string (pv), s] ∧ RtO w' (w.heap.size) (w'.heap.size) s 57 intT (ts) us ∧ Chg 0 0 w w' := by
 have hvt0 := hvt.fit
 refine sx_enter Tryd.func6 rfl Tryd.ntmps6 (Nat.le_of_ble_eq_true rfl) ?_
 refine sx_seq fun K1 k1 => sx_region ?_
 refine sx_box [.string pv, vt] rfl rfl rfl (fun b2 w3 eb2 sb2 fb2 cb2 => ?_)
 have zw3 := cb2.size
 refine sx_alloc [.string (⟨#[]⟩), (.slice none 0 0)] rfl Tryd.zeroValue30 rfl (fun b4 w5 eb4 sb4 fb4 cb4 => ?_)
 have zw5 := cb4.size
 refine wl_nil (q_n (k1 _ _ ?_))
 refine sx_seq fun K6 k6 => sx_region ?_
 refine sx_alloc [.string (⟨#[]⟩), (.slice none 0 0)] rfl Tryd.zeroValue30 rfl (fun b7 w8 eb7 sb7 fb7 cb7 => ?_)
 have zw8 := cb7.size
 refine wl_nil (q_n (k6 _ _ ?_))
 refine sx_seq fun K9 k9 => sx_region ?_
 refine sx_pure rfl rfl rfl (px_field rfl xfld24x0) ?_
 have f10 := fb2.ext cb4
 have f11 := f10.ext cb7
 refine sx_pure rfl rfl rfl (px_load rfl (f11.load1 rfl Tryd.isAgg9)) ?_
 refine sx_pure rfl rfl rfl (px_field rfl xfld30x0) ?_
 refine sx_store (vs := [.string pv]) rfl rfl fb7 rfl Tryd.sizeOf9 (Nat.le_of_ble_eq_true rfl) (one_cons rfl one_nil) (fun w12 sw12 fw12 cw12 => ?_)
 have zw12 := cw12.size
 have gw12 : Blk w12 b7 [.string pv, (.slice none 0 0)] 30 := fw12
 refine wl_nil (q_n (k9 _ _ ?_))
 refine sx_seq fun K13 k13 => sx_region ?_
 refine sx_pure rfl rfl rfl (px_field rfl xfld24x1) ?_
 have f14 := f11.chg cw12 (by omega)
 refine sx_pure rfl rfl rfl (px_load rfl (f14.load1 rfl Tryd.isAgg22)) ?_
 have f15 := hvt0.ext cb2
 have f16 := f15.ext cb4
 have f17 := f16.ext cb7
 have f18 := f17.chg cw12 (by omega)
 refine sx_call rfl rfl Tryd.call15 (c_toRateS f18 (by omega) (by assumption)) (fun v19 w19 p19 => ?_)
 obtain ⟨s19, us19, rfl, os_19, c19⟩ := p19
 have zw19 := c19.size
 refine sx_pure rfl rfl rfl (px_field rfl xfld30x1) ?_
 have f21 := gw12.ext c19
 refine sx_store (vs := [v19]) rfl rfl f21 (cells_one (os_19).toS.one) Tryd.sizeOf28 (Nat.le_of_ble_eq_true rfl) (one_cons (os_19).toS.one one_nil) (fun w20 sw20 fw20 cw20 => ?_)
 have zw20 := cw20.size
 have gw20 : Blk w20 b7 [.string pv, v19] 30 := fw20
 refine wl_nil (q_n (k13 _ _ ?_))
 refine sx_seq fun K22 k22 => sx_region ?_
 refine sx_pure rfl rfl rfl (px_load rfl (gw20.loadA (vs := [.string pv, v19]) (look_lit rfl) Tryd.isAgg30 Tryd.sizeOf30)) ?_
 have f24 := fb4.ext cb7
 have f25 := f24.chg cw12 (by omega)
 have f26 := f25.ext c19
 have f27 := f26.chg cw20 (by omega)
 have f28 := os_19.chg cw20 (by omega)
 refine sx_store (vs := [.string pv, v19]) rfl rfl f27 rfl Tryd.sizeOf30 (Nat.le_of_ble_eq_true rfl) (one_cons rfl (one_cons (f28).toS.one one_nil)) (fun w23 sw23 fw23 cw23 => ?_)
 have zw23 := cw23.size
 have gw23 : Blk w23 b4 [.string pv, v19] 30 := fw23
 refine wl_nil (q_n (k22 _ _ ?_))
 refine sx_retc ?_
 refine sx_ret1 Tryd.results6 ⟨_, rfl, gw23.loadA (vs := [.string pv, v19]) (look_lit rfl) Tryd.isAgg30 Tryd.sizeOf30⟩ ?_
 have f29 := f28.chg cw23 (by omega)
 have q30 := Chg.step (l := 0) (h := 0) (Chg.zero (l := 0) (h := 0) ((cb2.t cb4).t cb7)) cw12 (by omega)
 have q31 := Chg.step (l := 0) (h := 0) q30 c19 (by omega)
 have q32 := Chg.step (l := 0) (h := 0) q31 cw20 (by omega)
 have q33 := Chg.step (l := 0) (h := 0) q32 cw23 (by omega)
 exact ⟨_, _, rfl, (f29).mono (by omega) (by omega), q33⟩

theorem c_l08Table {w : World} :
  Ret Tryd.prog 42 [] w fun v w' => ∃ sl, v = sl ∧ Own w' w.heap.size w'.heap.size sl 67 20 4 (crCells tabS) ∧ Chg 0 0 w w' := by
 refine sx_enter Tryd.func42 rfl Tryd.ntmps42 (Nat.le_of_ble_eq_true rfl) ?_
 refine sx_seq fun K1 k1 => sx_region ?_
 refine sa rfl rfl rfl rfl ?_
 refine wl_nil (q_n (k1 _ _ ?_))
 refine sx_seq fun K2 k2 => sx_region ?_
 refine sx_pure rfl rfl rfl (px_build rfl (xbld67x0x1x2x3 rfl rfl rfl rfl _)) ?_
 refine sx_pure rfl rfl rfl (px_build rfl (xbld67x0x1x2x3 rfl rfl rfl rfl _)) ?_
 refine sx_pure rfl rfl rfl (px_build rfl (xbld67x0x1x2x3 rfl rfl rfl rfl _)) ?_
 refine sx_pure rfl rfl rfl (px_build rfl (xbld67x0x1x2x3 rfl rfl rfl rfl _)) ?_
 refine sx_pure rfl rfl rfl (px_build rfl (xbld67x0x1x2x3 rfl rfl rfl rfl _)) ?_
 refine sx_pure rfl rfl rfl (px_build rfl (xbld67x0x1x2x3 rfl rfl rfl rfl _)) ?_
 refine sx_pure rfl rfl rfl (px_build rfl (xbld67x0x1x2x3 rfl rfl rfl rfl _)) ?_
 refine sx_pure rfl rfl rfl (px_build rfl (xbld67x0x1x2x3 rfl rfl rfl rfl _)) ?_
 refine sx_pure rfl rfl rfl (px_build rfl (xbld67x0x1x2x3 rfl rfl rfl rfl _)) ?_
 refine sx_pure rfl rfl rfl (px_build rfl (xbld67x0x1x2x3 rfl rfl rfl rfl _)) ?_
 refine sx_pure rfl rfl rfl (px_build rfl (xbld67x0x1x2x3 rfl rfl rfl rfl _)) ?_
 refine sx_pure rfl rfl rfl (px_build rfl (xbld67x0x1x2x3 rfl rfl rfl rfl _)) ?_
 refine sx_pure rfl rfl rfl (px_build rfl (xbld67x0x1x2x3 rfl rfl rfl rfl _)) ?_
 refine sx_pure rfl rfl rfl (px_build rfl (xbld67x0x1x2x3 rfl rfl rfl rfl _)) ?_
 refine sx_pure rfl rfl rfl (px_build rfl (xbld67x0x1x2x3 rfl rfl rfl rfl _)) ?_
 refine sx_pure rfl rfl rfl (px_build rfl (xbld67x0x1x2x3 rfl rfl rfl rfl _)) ?_
 refine sx_pure rfl rfl rfl (px_build rfl (xbld67x0x1x2x3 rfl rfl rfl rfl _)) ?_
 refine sx_pure rfl rfl rfl (px_build rfl (xbld67x0x1x2x3 rfl rfl rfl rfl _)) ?_
 refine sx_pure rfl rfl rfl (px_build rfl (xbld67x0x1x2x3 rfl rfl rfl rfl _)) ?_
 refine sx_pure rfl rfl rfl (px_build rfl (xbld67x0x1x2x3 rfl rfl rfl rfl _)) ?_
 refine sx_litG (k := 4) (e := 67) (vs := crCells tabS) rfl rfl ⟨by decide, by decide⟩ (fun w => by kernel_rfl) (fun s3 ws3 ss3 fs3 cs3 => ?_)
 have zws3 := cs3.size
 refine sa rfl rfl rfl rfl ?_
 refine wl_nil (q_n (k2 _ _ ?_))
 refine sx_sub (Sub.cons (t := 0) rfl (.nil)) ?_
 refine sx_retc ?_
 refine sx_ret1 Tryd.results42 rfl ?_
 exact ⟨_, rfl, fs3, cs3⟩

theorem c_l08Find {w : World} {s : ByteArray} :
  Ret Tryd.prog 33 [.string s] w fun v w' => v = .agg #[.string ((curOf s).code), .string ((curOf s).number), .int .i64 ((curOf s).places), .int .i64 ((curOf s).cash)] ∧ Chg 0 0 w w' := by
 refine sx_enter Tryd.func33 rfl Tryd.ntmps33 (Nat.le_of_ble_eq_true rfl) ?_
 refine sx_seq fun K1 k1 => sx_region ?_
 refine sx_alloc [.string (⟨#[]⟩), .string (⟨#[]⟩), .int .i64 0, .int .i64 0] rfl Tryd.zeroValue67 rfl (fun b2 w3 eb2 sb2 fb2 cb2 => ?_)
 have zw3 := cb2.size
 refine wl_nil (q_n (k1 _ _ ?_))
 refine sx_seq fun K4 k4 => ?_
 refine sx_seq fun K5 k5 => sx_region ?_
 refine sx_call rfl rfl Tryd.call42 (c_l08Table) (fun v6 w6 p6 => ?_)
 obtain ⟨sl6, rfl, osl_6, c6⟩ := p6
 have zw6 := c6.size
 refine sx_pure rfl rfl rfl (px_len rfl Tryd.underlying83 osl_6.sv) ?_
 refine sm rfl rfl rfl rfl ?_
 refine wl_nil (q_n (k5 _ _ ?_))
 refine sx_block ?_
 refine sx_loop (fun mm aa w' => ∃ (k : Nat), Agr 18 [(0, .string s), (2, .pointer (some ⟨b2, 0, none⟩)), (5, v6), (6, .int .i64 20), (7, .int .i64 ↑k)] aa ∧ Chg 0 0 w6 w' ∧ (mm = 20 - k) ∧ (k ≤ 20) ∧ (∀ i, i < k → ¬ (tabS.getD i cr0).code = s)) (20) (fun a ha => ⟨0, ha.sub (Sub.cons (t := 0) rfl (.cons (t := 2) rfl (.cons (t := 5) rfl (.cons (t := 6) rfl (.cons (t := 7) (look_int (t := 7) rfl (by first | omega | simp)) (.nil)))))), Chg.refl _ _ _, rfl, by omega, fun i h => by omega⟩) ?_
 rintro mm aa wl7 ⟨k, hAwl7, cwl7, hm, hk, hn⟩
 refine (show cw Tryd.prog 18 _ _ _ wl7 from ?_) aa hAwl7
 clear hAwl7
 have zwl7 := cwl7.size
 refine sx_seq fun K8 k8 => sx_region ?_
 refine sx_pure rfl rfl rfl (px_lt rfl rfl) ?_
 refine wl_nil (q_n (k8 _ _ ?_))
 refine sx_seq fun K9 k9 => ?_
 refine sx_condP rfl (fun h24 => ?_) (fun h24 => ?_)
 ·
  refine sx_skip ?_
  refine q_n (k9 _ _ ?_)
  refine sx_seq fun K10 k10 => ?_
  refine sx_block ?_
  refine sx_seq fun K11 k11 => sx_region ?_
  have f12 := osl_6.ext cwl7
  refine sx_pure rfl rfl rfl (px_indexK (j := k) rfl rfl (by omega) Tryd.underlying83 Tryd.sizeOf67 f12.sv (by omega)) ?_
  refine sx_pure rfl rfl rfl (px_load rfl (f12.sv.loadA (cr_look (l := tabS) (k := k) (by rw [show tabS.length = 20 from rfl]; omega)) Tryd.isAgg67 Tryd.sizeOf67)) ?_
  refine sx_alloc [.string (⟨#[]⟩), .string (⟨#[]⟩), .int .i64 0, .int .i64 0] rfl Tryd.zeroValue67 rfl (fun b13 w14 eb13 sb13 fb13 cb13 => ?_)
  have zw14 := cb13.size
  refine sx_store (vs := [.string ((tabS.getD k cr0).code), .string ((tabS.getD k cr0).number), .int .i64 ((tabS.getD k cr0).places), .int .i64 ((tabS.getD k cr0).cash)]) rfl rfl fb13 rfl Tryd.sizeOf67 (Nat.le_of_ble_eq_true rfl) (one_cons rfl (one_cons rfl (one_cons rfl (one_cons rfl one_nil)))) (fun w15 sw15 fw15 cw15 => ?_)
  have zw15 := cw15.size
  have gw15 : Blk w15 b13 [.string ((tabS.getD k cr0).code), .string ((tabS.getD k cr0).number), .int .i64 ((tabS.getD k cr0).places), .int .i64 ((tabS.getD k cr0).cash)] 67 := fw15
  refine wl_nil (q_n (k11 _ _ ?_))
  refine sx_seq fun K16 k16 => sx_region ?_
  refine sx_pure rfl rfl rfl (px_field rfl xfld67x0) ?_
  refine sx_pure rfl rfl rfl (px_load rfl (gw15.load1 rfl Tryd.isAgg9)) ?_
  refine sm rfl rfl rfl rfl ?_
  refine sx_pure rfl rfl rfl (px_eqS rfl rfl) ?_
  refine wl_nil (q_n (k16 _ _ ?_))
  refine sx_condP rfl (fun h25 => ?_) (fun h25 => ?_)
  ·
   refine sx_seq fun K17 k17 => sx_region ?_
   refine sx_pure rfl rfl rfl (px_load rfl (gw15.loadA (vs := [.string ((tabS.getD k cr0).code), .string ((tabS.getD k cr0).number), .int .i64 ((tabS.getD k cr0).places), .int .i64 ((tabS.getD k cr0).cash)]) (look_lit rfl) Tryd.isAgg67 Tryd.sizeOf67)) ?_
   have f19 := fb2.ext c6
   have f20 := f19.ext cwl7
   have f21 := f20.ext cb13
   have f22 := f21.chg cw15 (by omega)
   refine sx_store (vs := [.string ((tabS.getD k cr0).code), .string ((tabS.getD k cr0).number), .int .i64 ((tabS.getD k cr0).places), .int .i64 ((tabS.getD k cr0).cash)]) rfl rfl f22 rfl Tryd.sizeOf67 (Nat.le_of_ble_eq_true rfl) (one_cons rfl (one_cons rfl (one_cons rfl (one_cons rfl one_nil)))) (fun w18 sw18 fw18 cw18 => ?_)
   have zw18 := cw18.size
   have gw18 : Blk w18 b2 [.string ((tabS.getD k cr0).code), .string ((tabS.getD k cr0).number), .int .i64 ((tabS.getD k cr0).places), .int .i64 ((tabS.getD k cr0).cash)] 67 := fw18
   refine wl_nil (q_n (k17 _ _ ?_))
   refine sx_retc ?_
   refine q_br (q_r (q_r (q_br (q_r (sx_ret1 Tryd.results33 ⟨_, rfl, gw18.loadA (vs := [.string ((tabS.getD k cr0).code), .string ((tabS.getD k cr0).number), .int .i64 ((tabS.getD k cr0).places), .int .i64 ((tabS.getD k cr0).cash)]) (look_lit rfl) Tryd.isAgg67 Tryd.sizeOf67⟩ ?_)))))
   have e := curOf_someS (by rw [show tabS.length = 20 from rfl]; omega) hn h25
   rw [e]
   have q23 := Chg.step (l := 0) (h := 0) (Chg.zero (l := 0) (h := 0) (((cb2.t c6).t cwl7).t cb13)) cw15 (by omega)
   have q24 := Chg.step (l := 0) (h := 0) q23 cw18 (by omega)
   exact ⟨rfl, q24⟩
  ·
   refine sx_skip ?_
   refine q_bn (q_n (k10 _ _ ?_))
   refine sx_region ?_
   refine sx_pure rfl rfl rfl (px_add rfl rfl (by omega)) ?_
   refine sm rfl rfl rfl rfl ?_
   refine wl_nil ?_
   have q25 := Chg.step (l := 0) (h := 0) (Chg.zero (l := 0) (h := 0) (cwl7.t cb13)) cw15 (by omega)
   exact fun a ha => ⟨_, by omega, (k + 1), ha.sub (Sub.cons (t := 0) rfl (.cons (t := 2) rfl (.cons (t := 5) rfl (.cons (t := 6) rfl (.cons (t := 7) (look_int (t := 7) rfl (by first | omega | simp)) (.nil)))))), q25, rfl, by omega, upto_succ hn h25⟩
 ·
  refine sx_exit ?_
  refine q_e (q_e (q_bx (q_n (k4 _ _ ?_))))
  refine sx_seq fun K26 k26 => sx_region ?_
  refine sx_pure rfl rfl rfl (px_build rfl (xbld67x  _)) ?_
  have f28 := fb2.ext c6
  have f29 := f28.ext cwl7
  refine sx_store (vs := [.string (⟨#[]⟩), .string (⟨#[]⟩), .int .i64 0, .int .i64 0]) rfl rfl f29 rfl Tryd.sizeOf67 (Nat.le_of_ble_eq_true rfl) (one_cons rfl (one_cons rfl (one_cons rfl (one_cons rfl one_nil)))) (fun w27 sw27 fw27 cw27 => ?_)
  have zw27 := cw27.size
  have gw27 : Blk w27 b2 [.string (⟨#[]⟩), .string (⟨#[]⟩), .int .i64 0, .int .i64 0] 67 := fw27
  refine wl_nil (q_n (k26 _ _ ?_))
  refine sx_retc ?_
  refine sx_ret1 Tryd.results33 ⟨_, rfl, gw27.loadA (vs := [.string (⟨#[]⟩), .string (⟨#[]⟩), .int .i64 0, .int .i64 0]) (look_lit rfl) Tryd.isAgg67 Tryd.sizeOf67⟩ ?_
  have e := curOf_noneS (s := s) (fun i hi => hn i (by rw [show tabS.length = 20 from rfl] at hi; omega))
  rw [e]
  have q30 := Chg.step (l := 0) (h := 0) (Chg.zero (l := 0) (h := 0) ((cb2.t c6).t cwl7)) cw27 (by omega)
  exact ⟨rfl, q30⟩

theorem c_sCurKnown {w : World} {s : ByteArray} :
  Ret Tryd.prog 22 [.string s] w fun v w' => v = .bool (decide (Known s)) ∧ Chg 0 0 w w' := by
 refine sx_enter Tryd.func22 rfl Tryd.ntmps22 (Nat.le_of_ble_eq_true rfl) ?_
 refine sx_seq fun K1 k1 => sx_region ?_
 refine sa rfl rfl rfl rfl ?_
 refine wl_nil (q_n (k1 _ _ ?_))
 refine sx_seq fun K2 k2 => sx_region ?_
 refine sm rfl rfl rfl rfl ?_
 refine sx_call rfl rfl Tryd.call33 (c_l08Find) (fun v3 w3 p3 => ?_)
 obtain ⟨rfl, c3⟩ := p3
 have zw3 := c3.size
 refine sx_pure rfl rfl rfl (px_fieldv rfl (xfv67x0 _)) ?_
 refine sx_pure rfl rfl rfl (px_neS rfl rfl) ?_
 refine sa rfl rfl rfl rfl ?_
 refine wl_nil (q_n (k2 _ _ ?_))
 refine sx_retc ?_
 refine sx_ret1 Tryd.results22 rfl ?_
 exact ⟨bIff (known_iff s).symm, c3⟩

theorem c_l01In {w : World} {n : Int} {lo : Int} {hi : Int} :
  Ret Tryd.prog 49 [.int .i64 n, .int .i64 lo, .int .i64 hi] w fun v w' => v = .bool (decide (lo ≤ n ∧ n ≤ hi)) ∧ Chg 0 0 w w' := by
 refine sx_enter Tryd.func49 rfl Tryd.ntmps49 (Nat.le_of_ble_eq_true rfl) ?_
 refine sx_seq fun K1 k1 => sx_region ?_
 refine sa rfl rfl rfl rfl ?_
 refine wl_nil (q_n (k1 _ _ ?_))
 refine sx_seq fun K2 k2 => sx_region ?_
 refine sm rfl rfl rfl rfl ?_
 refine sm rfl rfl rfl rfl ?_
 refine sx_pure rfl rfl rfl (px_ge rfl rfl) ?_
 refine sm rfl rfl rfl rfl ?_
 refine sx_tmpP (t := 10) rfl (fun h5 => ?_) (fun h5 => ?_)
 ·
  refine sx_guardT rfl rfl rfl ?_
  refine sm rfl rfl rfl rfl ?_
  refine sx_guardT rfl rfl rfl ?_
  refine sm rfl rfl rfl rfl ?_
  refine sx_guardT rfl rfl rfl ?_
  refine sx_pure rfl rfl rfl (px_le rfl rfl) ?_
  refine sx_pure rfl rfl rfl (px_pick rfl rfl) ?_
  refine sa rfl rfl rfl rfl ?_
  refine wl_nil (q_n (k2 _ _ ?_))
  refine sx_retc ?_
  refine sx_ret1 Tryd.results49 rfl ?_
  exact ⟨(by first | exact bIff (by omega) | exact bFalse (by omega) | exact bTrue (by omega)), (Chg.refl 0 0 _)⟩
 ·
  refine sx_guardF rfl rfl rfl rfl rfl rfl ?_
  refine sx_guardF rfl rfl rfl rfl rfl rfl ?_
  refine sx_guardF rfl rfl rfl rfl rfl rfl ?_
  refine sx_pure rfl rfl rfl (px_pick rfl rfl) ?_
  refine sa rfl rfl rfl rfl ?_
  refine wl_nil (q_n (k2 _ _ ?_))
  refine sx_retc ?_
  refine sx_ret1 Tryd.results49 rfl ?_
  exact ⟨(by first | exact bIff (by omega) | exact bFalse (by omega) | exact bTrue (by omega)), (Chg.refl 0 0 _)⟩

theorem c_sNatOk {w : World} {va : Value} {lva uva : Nat} {zs : List Int} (hva : Sl w lva uva va (zs)) (h63 : zs.length ≤ 4611686018427387904) :
  Ret Tryd.prog 55 [va] w fun v w' => v = .bool (decide (NOk zs)) ∧ Chg 0 0 w w' := by
 have hva0 := hva.fit
 refine sx_enter Tryd.func55 rfl Tryd.ntmps55 (Nat.le_of_ble_eq_true rfl) ?_
 refine sx_seq fun K1 k1 => sx_region ?_
 refine sa rfl rfl rfl rfl ?_
 refine wl_nil (q_n (k1 _ _ ?_))
 refine sx_seq fun K2 k2 => ?_
 refine sx_seq fun K3 k3 => sx_region ?_
 refine sm rfl rfl rfl rfl ?_
 refine sx_pure rfl rfl rfl (px_len rfl Tryd.underlying44 hva0) ?_
 refine sm rfl rfl rfl rfl ?_
 refine wl_nil (q_n (k3 _ _ ?_))
 refine sx_block ?_
 refine sx_loop (fun mm aa w' => ∃ (k : Nat), Agr 32 [(0, va), (5, va), (6, .int .i64 ↑zs.length), (7, .int .i64 ↑k)] aa ∧ Chg 0 0 w w' ∧ (mm = zs.length - k) ∧ (k ≤ zs.length) ∧ (∀ i, i < k → 0 ≤ zs.getD i 0 ∧ zs.getD i 0 < 1000000000)) (_) (fun a ha => ⟨0, ha.sub (Sub.cons (t := 0) rfl (.cons (t := 5) rfl (.cons (t := 6) (look_int (t := 6) rfl (by first | omega | simp)) (.cons (t := 7) (look_int (t := 7) rfl (by first | omega | simp)) (.nil))))), Chg.refl _ _ _, rfl, by omega, fun i h => by omega⟩) ?_
 rintro mm aa wl4 ⟨k, hAwl4, cwl4, hm, hk, hall⟩
 refine (show cw Tryd.prog 32 _ _ _ wl4 from ?_) aa hAwl4
 clear hAwl4
 have zwl4 := cwl4.size
 refine sx_seq fun K5 k5 => sx_region ?_
 refine sx_pure rfl rfl rfl (px_lt rfl rfl) ?_
 refine wl_nil (q_n (k5 _ _ ?_))
 refine sx_seq fun K6 k6 => ?_
 refine sx_condP rfl (fun h7 => ?_) (fun h7 => ?_)
 ·
  refine sx_skip ?_
  refine q_n (k6 _ _ ?_)
  refine sx_seq fun K7 k7 => ?_
  refine sx_block ?_
  refine sx_seq fun K8 k8 => sx_region ?_
  have f9 := hva0.ext cwl4
  refine sx_pure rfl rfl rfl (px_index1 (j := k) rfl rfl (by omega) Tryd.underlying44 Tryd.sizeOf3 f9 (by omega)) ?_
  refine sx_pure rfl rfl rfl (px_load rfl (f9.load1 (at_int (by omega)) Tryd.isAgg3)) ?_
  refine sa rfl rfl rfl rfl ?_
  refine wl_nil (q_n (k8 _ _ ?_))
  refine sx_seq fun K10 k10 => sx_region ?_
  refine sm rfl rfl rfl rfl ?_
  refine sx_call rfl rfl Tryd.call49 (c_l01In) (fun v11 w11 p11 => ?_)
  obtain ⟨rfl, c11⟩ := p11
  have zw11 := c11.size
  refine sx_pure rfl rfl rfl (px_notP rfl) ?_
  refine wl_nil (q_n (k10 _ _ ?_))
  refine sx_condP rfl (fun h8 => ?_) (fun h8 => ?_)
  ·
   refine sx_seq fun K12 k12 => sx_region ?_
   refine sa rfl rfl rfl rfl ?_
   refine wl_nil (q_n (k12 _ _ ?_))
   refine sx_retc ?_
   refine q_br (q_r (q_r (q_br (q_r (sx_ret1 Tryd.results55 rfl ?_)))))
   exact ⟨bFalse (fun h => by have h1 := h.1.getD k; omega), (cwl4.t c11)⟩
  ·
   refine sx_skip ?_
   refine q_bn (q_n (k7 _ _ ?_))
   refine sx_region ?_
   refine sx_pure rfl rfl rfl (px_add rfl rfl (by omega)) ?_
   refine sm rfl rfl rfl rfl ?_
   refine wl_nil ?_
   exact fun a ha => ⟨_, by omega, (k + 1), ha.sub (Sub.cons (t := 0) rfl (.cons (t := 5) rfl (.cons (t := 6) rfl (.cons (t := 7) (look_int (t := 7) rfl (by first | omega | simp)) (.nil))))), (cwl4.t c11), rfl, by omega, lm_succ hall (by omega)⟩
 ·
  refine sx_exit ?_
  refine q_e (q_e (q_bx (q_n (k2 _ _ ?_))))
  refine sx_seq fun K13 k13 => ?_
  have ek : k = zs.length := by omega
  have hz : Lm zs := lm_mem (by rw [← ek]; exact hall)
  refine sx_region ?_
  refine sm rfl rfl rfl rfl ?_
  have f14 := hva0.ext cwl4
  refine sx_pure rfl rfl rfl (px_len rfl Tryd.underlying44 f14) ?_
  refine sx_pure rfl rfl rfl (px_le rfl rfl) ?_
  refine sm rfl rfl rfl rfl ?_
  refine sx_tmpP (t := 18) rfl (fun h12 => ?_) (fun h12 => ?_)
  ·
   refine sx_guardT rfl rfl rfl ?_
   refine sm rfl rfl rfl rfl ?_
   refine sx_guardT rfl rfl rfl ?_
   refine sx_pure rfl rfl rfl (px_len rfl Tryd.underlying44 f14) ?_
   refine sx_guardT rfl rfl rfl ?_
   refine sx_pure rfl rfl rfl (px_eq rfl rfl) ?_
   refine sx_guardT rfl rfl rfl ?_
   refine sm rfl rfl rfl rfl ?_
   refine sx_tmpP (t := 22) rfl (fun h12x1 => ?_) (fun h12x1 => ?_)
   ·
    refine sx_guardF rfl rfl rfl rfl rfl rfl ?_
    refine sx_guardF rfl rfl rfl rfl rfl rfl ?_
    refine sx_guardF rfl rfl rfl rfl rfl rfl ?_
    refine sx_guardF rfl rfl rfl rfl rfl rfl ?_
    refine sx_guardF rfl rfl rfl rfl rfl rfl ?_
    refine sx_guardF rfl rfl rfl rfl rfl rfl ?_
    refine sx_guardF rfl rfl rfl rfl rfl rfl ?_
    refine sx_guardT rfl rfl rfl ?_
    refine sx_pure rfl rfl rfl (px_pick rfl rfl) ?_
    refine sx_pure rfl rfl rfl (px_pick rfl rfl) ?_
    refine sa rfl rfl rfl rfl ?_
    refine wl_nil (q_n (k13 _ _ ?_))
    refine sx_sub (Sub.cons (t := 2) rfl (.nil)) ?_
    refine sx_retc ?_
    refine sx_ret1 Tryd.results55 rfl ?_
    exact ⟨(by first | exact bFalse (fun h => by have h1 := h.2.1; omega) | exact bTrue (NOk_mk hz (by omega) (.inl (by omega))) | exact bIff (NOk_iff hz (by omega) (by omega))), cwl4⟩
   ·
    refine sx_guardT rfl rfl rfl ?_
    refine sm rfl rfl rfl rfl ?_
    refine sx_guardT rfl rfl rfl ?_
    refine sm rfl rfl rfl rfl ?_
    refine sx_guardT rfl rfl rfl ?_
    refine sx_pure rfl rfl rfl (px_len rfl Tryd.underlying44 f14) ?_
    refine sx_guardT rfl rfl rfl ?_
    refine sx_pure rfl rfl rfl (px_sub rfl rfl (by omega)) ?_
    refine sx_guardT rfl rfl rfl ?_
    refine sx_pure rfl rfl rfl (px_index1 (j := (zs.length - 1)) rfl rfl (by omega) Tryd.underlying44 Tryd.sizeOf3 f14 (by omega)) ?_
    refine sx_guardT rfl rfl rfl ?_
    refine sx_pure rfl rfl rfl (px_load rfl (f14.load1 (at_int (by omega)) Tryd.isAgg3)) ?_
    refine sx_guardT rfl rfl rfl ?_
    refine sx_pure rfl rfl rfl (px_ne rfl rfl) ?_
    refine sx_guardT rfl rfl rfl ?_
    refine sx_pure rfl rfl rfl (px_pick rfl rfl) ?_
    refine sx_pure rfl rfl rfl (px_pick rfl rfl) ?_
    refine sa rfl rfl rfl rfl ?_
    refine wl_nil (q_n (k13 _ _ ?_))
    refine sx_sub (Sub.cons (t := 2) rfl (.nil)) ?_
    refine sx_retc ?_
    refine sx_ret1 Tryd.results55 rfl ?_
    exact ⟨(by first | exact bFalse (fun h => by have h1 := h.2.1; omega) | exact bTrue (NOk_mk hz (by omega) (.inl (by omega))) | exact bIff (NOk_iff hz (by omega) (by omega))), cwl4⟩
  ·
   refine sx_guardF rfl rfl rfl rfl rfl rfl ?_
   refine sx_guardF rfl rfl rfl rfl rfl rfl ?_
   refine sx_guardF rfl rfl rfl rfl rfl rfl ?_
   refine sx_guardF rfl rfl rfl rfl rfl rfl ?_
   refine sx_guardFU rfl rfl rfl rfl rfl ?_
   refine sx_guardFU rfl rfl rfl rfl rfl ?_
   refine sx_guardFU rfl rfl rfl rfl rfl ?_
   refine sx_guardFU rfl rfl rfl rfl rfl ?_
   refine sx_guardFU rfl rfl rfl rfl rfl ?_
   refine sx_guardFU rfl rfl rfl rfl rfl ?_
   refine sx_guardFU rfl rfl rfl rfl rfl ?_
   refine sx_guardF rfl rfl rfl rfl rfl rfl ?_
   refine sx_pure rfl rfl rfl (px_pick rfl rfl) ?_
   refine sa rfl rfl rfl rfl ?_
   refine wl_nil (q_n (k13 _ _ ?_))
   refine sx_sub (Sub.cons (t := 2) rfl (.nil)) ?_
   refine sx_retc ?_
   refine sx_ret1 Tryd.results55 rfl ?_
   exact ⟨(by first | exact bFalse (fun h => by have h1 := h.2.1; omega) | exact bTrue (NOk_mk hz (by omega) (.inl (by omega))) | exact bIff (NOk_iff hz (by omega) (by omega))), cwl4⟩

theorem c_sIntOk {w : World} {n1 : Bool} {v1 : Value} {lv1 uv1 : Nat} {z1 : List Int} (hv1 : Sl w lv1 uv1 v1 (z1)) (h63 : z1.length ≤ 4611686018427387904) :
  Ret Tryd.prog 48 [.agg #[.bool n1, v1]] w fun v w' => v = .bool (decide (IOk n1 z1)) ∧ Chg 0 0 w w' := by
 have hv10 := hv1.fit
 refine sx_enter Tryd.func48 rfl Tryd.ntmps48 (Nat.le_of_ble_eq_true rfl) ?_
 refine sx_seq fun K1 k1 => sx_region ?_
 refine sx_box [.bool n1, v1] rfl rfl rfl (fun b2 w3 eb2 sb2 fb2 cb2 => ?_)
 have zw3 := cb2.size
 refine sa rfl rfl rfl rfl ?_
 refine wl_nil (q_n (k1 _ _ ?_))
 refine sx_seq fun K4 k4 => sx_region ?_
 refine sx_pure rfl rfl rfl (px_field rfl xfld53x1) ?_
 refine sx_pure rfl rfl rfl (px_load rfl (fb2.load1 rfl Tryd.isAgg44)) ?_
 have f5 := hv10.ext cb2
 refine sx_call rfl rfl Tryd.call55 (c_sNatOk f5 (by omega)) (fun v6 w6 p6 => ?_)
 obtain ⟨rfl, c6⟩ := p6
 have zw6 := c6.size
 refine sm rfl rfl rfl rfl ?_
 refine sx_tmpP (t := 6) rfl (fun h6 => ?_) (fun h6 => ?_)
 ·
  refine sx_guardT rfl rfl rfl ?_
  refine sx_pure rfl rfl rfl (px_field rfl xfld53x0) ?_
  refine sx_guardT rfl rfl rfl ?_
  have f7 := fb2.ext c6
  refine sx_pure rfl rfl rfl (px_load rfl (f7.load1 rfl Tryd.isAgg4)) ?_
  refine sx_guardT rfl rfl rfl ?_
  refine sx_pure rfl rfl rfl (px_not rfl) ?_
  refine sx_guardT rfl rfl rfl ?_
  refine sm rfl rfl rfl rfl ?_
  refine sx_tmpB (t := 10) rfl (fun h6x1 => ?_) (fun h6x1 => ?_)
  ·
   refine sx_guardF rfl rfl rfl rfl rfl rfl ?_
   refine sx_guardF rfl rfl rfl rfl rfl rfl ?_
   refine sx_guardF rfl rfl rfl rfl rfl rfl ?_
   refine sx_guardF rfl rfl rfl rfl rfl rfl ?_
   refine sx_guardT rfl rfl rfl ?_
   refine sx_pure rfl rfl rfl (px_pick rfl rfl) ?_
   refine sx_pure rfl rfl rfl (px_pick rfl rfl) ?_
   refine sa rfl rfl rfl rfl ?_
   refine wl_nil (q_n (k4 _ _ ?_))
   refine sx_sub (Sub.cons (t := 2) rfl (.nil)) ?_
   refine sx_retc ?_
   refine sx_ret1 Tryd.results48 rfl ?_
   exact ⟨(by first | exact bTrue (by grind [IOk]) | exact bFalse (by grind [IOk]) | exact bIff (by grind [IOk])), (cb2.t c6)⟩
  ·
   refine sx_guardT rfl rfl rfl ?_
   refine sx_pure rfl rfl rfl (px_field rfl xfld53x1) ?_
   refine sx_guardT rfl rfl rfl ?_
   refine sx_pure rfl rfl rfl (px_load rfl (f7.load1 rfl Tryd.isAgg44)) ?_
   refine sx_guardT rfl rfl rfl ?_
   have f8 := f5.ext c6
   refine sx_pure rfl rfl rfl (px_len rfl Tryd.underlying44 f8) ?_
   refine sx_guardT rfl rfl rfl ?_
   refine sx_pure rfl rfl rfl (px_gt rfl rfl) ?_
   refine sx_guardT rfl rfl rfl ?_
   refine sx_pure rfl rfl rfl (px_pick rfl rfl) ?_
   refine sx_pure rfl rfl rfl (px_pick rfl rfl) ?_
   refine sa rfl rfl rfl rfl ?_
   refine wl_nil (q_n (k4 _ _ ?_))
   refine sx_sub (Sub.cons (t := 2) rfl (.nil)) ?_
   refine sx_retc ?_
   refine sx_ret1 Tryd.results48 rfl ?_
   exact ⟨(by first | exact bTrue (by grind [IOk]) | exact bFalse (by grind [IOk]) | exact bIff (by grind [IOk])), (cb2.t c6)⟩
 ·
  refine sx_guardF rfl rfl rfl rfl rfl rfl ?_
  refine sx_guardF rfl rfl rfl rfl rfl rfl ?_
  refine sx_guardF rfl rfl rfl rfl rfl rfl ?_
  refine sx_guardF rfl rfl rfl rfl rfl rfl ?_
  refine sx_guardFU rfl rfl rfl rfl rfl ?_
  refine sx_guardFU rfl rfl rfl rfl rfl ?_
  refine sx_guardFU rfl rfl rfl rfl rfl ?_
  refine sx_guardFU rfl rfl rfl rfl rfl ?_
  refine sx_guardF rfl rfl rfl rfl rfl rfl ?_
  refine sx_pure rfl rfl rfl (px_pick rfl rfl) ?_
  refine sa rfl rfl rfl rfl ?_
  refine wl_nil (q_n (k4 _ _ ?_))
  refine sx_sub (Sub.cons (t := 2) rfl (.nil)) ?_
  refine sx_retc ?_
  refine sx_ret1 Tryd.results48 rfl ?_
  exact ⟨(by first | exact bTrue (by grind [IOk]) | exact bFalse (by grind [IOk]) | exact bIff (by grind [IOk])), (cb2.t c6)⟩

theorem c_sDecOk {w : World} {n1 : Bool} {v1 : Value} {lv1 uv1 : Nat} {z1 : List Int} {p1 : Int} (hv1 : Sl w lv1 uv1 v1 (z1)) (h63 : z1.length ≤ 4611686018427387904) :
  Ret Tryd.prog 40 [.agg #[.bool n1, v1, .int .i64 p1]] w fun v w' => v = .bool (decide (DOk n1 z1 p1)) ∧ Chg 0 0 w w' := by
 have hv10 := hv1.fit
 refine sx_enter Tryd.func40 rfl Tryd.ntmps40 (Nat.le_of_ble_eq_true rfl) ?_
 refine sx_seq fun K1 k1 => sx_region ?_
 refine sx_box [.bool n1, v1, .int .i64 p1] rfl rfl rfl (fun b2 w3 eb2 sb2 fb2 cb2 => ?_)
 have zw3 := cb2.size
 refine sa rfl rfl rfl rfl ?_
 refine wl_nil (q_n (k1 _ _ ?_))
 refine sx_seq fun K4 k4 => sx_region ?_
 refine sx_pure rfl rfl rfl (px_field rfl xfld55x0) ?_
 refine sx_pure rfl rfl rfl (px_load rfl (fb2.loadA (vs := [.bool n1, v1]) (look_lit rfl) Tryd.isAgg53 Tryd.sizeOf53)) ?_
 have f5 := hv10.ext cb2
 refine sx_call rfl rfl Tryd.call48 (c_sIntOk f5 (by omega)) (fun v6 w6 p6 => ?_)
 obtain ⟨rfl, c6⟩ := p6
 have zw6 := c6.size
 refine sm rfl rfl rfl rfl ?_
 refine sx_tmpP (t := 6) rfl (fun h7 => ?_) (fun h7 => ?_)
 ·
  refine sx_guardT rfl rfl rfl ?_
  refine sx_pure rfl rfl rfl (px_field rfl xfld55x0) ?_
  refine sx_guardT rfl rfl rfl ?_
  refine sx_pure rfl rfl rfl (px_field rfl xfld53x1) ?_
  refine sx_guardT rfl rfl rfl ?_
  have f7 := fb2.ext c6
  refine sx_pure rfl rfl rfl (px_load rfl (f7.load1 rfl Tryd.isAgg44)) ?_
  refine sx_guardT rfl rfl rfl ?_
  have f8 := f5.ext c6
  refine sx_pure rfl rfl rfl (px_len rfl Tryd.underlying44 f8) ?_
  refine sx_guardT rfl rfl rfl ?_
  refine sx_pure rfl rfl rfl (px_le rfl rfl) ?_
  refine sx_pure rfl rfl rfl (px_pick rfl rfl) ?_
  refine sm rfl rfl rfl rfl ?_
  refine sx_tmpP (t := 13) rfl (fun h7x1 => ?_) (fun h7x1 => ?_)
  ·
   refine sx_guardT rfl rfl rfl ?_
   refine sx_pure rfl rfl rfl (px_field rfl xfld55x1) ?_
   refine sx_guardT rfl rfl rfl ?_
   refine sx_pure rfl rfl rfl (px_load rfl (f7.load1 rfl Tryd.isAgg3)) ?_
   refine sx_guardT rfl rfl rfl ?_
   refine sx_call rfl rfl Tryd.call49 (c_l01In) (fun v9 w9 p9 => ?_)
   obtain ⟨rfl, c9⟩ := p9
   have zw9 := c9.size
   refine sx_pure rfl rfl rfl (px_pick rfl rfl) ?_
   refine sa rfl rfl rfl rfl ?_
   refine wl_nil (q_n (k4 _ _ ?_))
   refine sx_sub (Sub.cons (t := 2) rfl (.nil)) ?_
   refine sx_retc ?_
   refine sx_ret1 Tryd.results40 rfl ?_
   exact ⟨(by first | exact bTrue (by grind [DOk]) | exact bFalse (by grind [DOk]) | exact bIff (by grind [DOk])), ((cb2.t c6).t c9)⟩
  ·
   refine sx_guardF rfl rfl rfl rfl rfl rfl ?_
   refine sx_guardF rfl rfl rfl rfl rfl rfl ?_
   refine sx_guardF rfl rfl rfl rfl rfl rfl ?_
   refine sx_pure rfl rfl rfl (px_pick rfl rfl) ?_
   refine sa rfl rfl rfl rfl ?_
   refine wl_nil (q_n (k4 _ _ ?_))
   refine sx_sub (Sub.cons (t := 2) rfl (.nil)) ?_
   refine sx_retc ?_
   refine sx_ret1 Tryd.results40 rfl ?_
   exact ⟨(by first | exact bTrue (by grind [DOk]) | exact bFalse (by grind [DOk]) | exact bIff (by grind [DOk])), (cb2.t c6)⟩
 ·
  refine sx_guardF rfl rfl rfl rfl rfl rfl ?_
  refine sx_guardF rfl rfl rfl rfl rfl rfl ?_
  refine sx_guardF rfl rfl rfl rfl rfl rfl ?_
  refine sx_guardF rfl rfl rfl rfl rfl rfl ?_
  refine sx_guardF rfl rfl rfl rfl rfl rfl ?_
  refine sx_pure rfl rfl rfl (px_pick rfl rfl) ?_
  refine sm rfl rfl rfl rfl ?_
  refine sx_guardF rfl rfl rfl rfl rfl rfl ?_
  refine sx_guardF rfl rfl rfl rfl rfl rfl ?_
  refine sx_guardF rfl rfl rfl rfl rfl rfl ?_
  refine sx_pure rfl rfl rfl (px_pick rfl rfl) ?_
  refine sa rfl rfl rfl rfl ?_
  refine wl_nil (q_n (k4 _ _ ?_))
  refine sx_sub (Sub.cons (t := 2) rfl (.nil)) ?_
  refine sx_retc ?_
  refine sx_ret1 Tryd.results40 rfl ?_
  exact ⟨(by first | exact bTrue (by grind [DOk]) | exact bFalse (by grind [DOk]) | exact bIff (by grind [DOk])), (cb2.t c6)⟩

theorem c_l02Cmp {w : World} {va : Value} {lva uva : Nat} {zs : List Int} {vb : Value} {lvb uvb : Nat} {ys : List Int} (hva : Sl w lva uva va (zs)) (hvb : Sl w lvb uvb vb (ys)) (h63 : zs.length ≤ 4611686018427387904 ∧ ys.length ≤ 4611686018427387904) :
  Ret Tryd.prog 56 [va, vb] w fun v w' => v = .int .i64 (cmpL zs ys) ∧ Chg 0 0 w w' := by
 have hva0 := hva.fit
 have hvb0 := hvb.fit
 have zs0 : zs.drop zs.length = [] := by simp
 have ys0 : ys.drop ys.length = [] := by simp
 refine sx_enter Tryd.func56 rfl Tryd.ntmps56 (Nat.le_of_ble_eq_true rfl) ?_
 refine sx_seq fun K1 k1 => sx_region ?_
 refine sa rfl rfl rfl rfl ?_
 refine wl_nil (q_n (k1 _ _ ?_))
 refine sx_seq fun K2 k2 => ?_
 refine sx_seq fun K3 k3 => sx_region ?_
 refine sm rfl rfl rfl rfl ?_
 refine sx_pure rfl rfl rfl (px_len rfl Tryd.underlying44 hva0) ?_
 refine sm rfl rfl rfl rfl ?_
 refine sx_pure rfl rfl rfl (px_len rfl Tryd.underlying44 hvb0) ?_
 refine sx_pure rfl rfl rfl (px_ne rfl rfl) ?_
 refine wl_nil (q_n (k3 _ _ ?_))
 refine sx_condP rfl (fun h54 => ?_) (fun h54 => ?_)
 ·
  refine sx_seq fun K4 k4 => ?_
  refine sx_seq fun K5 k5 => sx_region ?_
  refine sm rfl rfl rfl rfl ?_
  refine sx_pure rfl rfl rfl (px_len rfl Tryd.underlying44 hva0) ?_
  refine sm rfl rfl rfl rfl ?_
  refine sx_pure rfl rfl rfl (px_len rfl Tryd.underlying44 hvb0) ?_
  refine sx_pure rfl rfl rfl (px_lt rfl rfl) ?_
  refine wl_nil (q_n (k5 _ _ ?_))
  refine sx_condP rfl (fun h55 => ?_) (fun h55 => ?_)
  ·
   refine sx_seq fun K6 k6 => sx_region ?_
   refine sa rfl rfl rfl rfl ?_
   refine wl_nil (q_n (k6 _ _ ?_))
   refine sx_retc ?_
   refine q_r (q_r (sx_ret1 Tryd.results56 rfl ?_))
   exact ⟨iEq (cmpL_short (by omega)).symm, (Chg.refl 0 0 _)⟩
  ·
   refine sx_skip ?_
   refine q_n (k4 _ _ ?_)
   refine sx_seq fun K7 k7 => sx_region ?_
   refine sa rfl rfl rfl rfl ?_
   refine wl_nil (q_n (k7 _ _ ?_))
   refine sx_retc ?_
   refine q_r (sx_ret1 Tryd.results56 rfl ?_)
   exact ⟨iEq (cmpL_long (by omega)).symm, (Chg.refl 0 0 _)⟩
 ·
  refine sx_skip ?_
  refine q_n (k2 _ _ ?_)
  refine sx_seq fun K8 k8 => ?_
  refine sx_seq fun K9 k9 => sx_region ?_
  refine sm rfl rfl rfl rfl ?_
  refine sx_pure rfl rfl rfl (px_len rfl Tryd.underlying44 hva0) ?_
  refine sx_pure rfl rfl rfl (px_sub rfl rfl (by omega)) ?_
  refine sa rfl rfl rfl rfl ?_
  refine wl_nil (q_n (k9 _ _ ?_))
  refine sx_block ?_
  have e00 : zs.length = ys.length := by omega
  have he0 : zs.drop zs.length = ys.drop zs.length := by rw [zs0, e00, ys0]
  refine sx_loop (fun mm aa w' => ∃ (k : Nat), Agr 41 [(0, va), (1, vb), (5, .int .i64 (↑k - 1))] aa ∧ Chg 0 0 w w' ∧ (mm = k) ∧ (k ≤ zs.length) ∧ (zs.drop k = ys.drop k)) (_) (fun a ha => ⟨zs.length, ha.sub (Sub.cons (t := 0) rfl (.cons (t := 1) rfl (.cons (t := 5) (look_int (t := 5) rfl (by first | omega | simp)) (.nil)))), Chg.refl _ _ _, rfl, by omega, he0⟩) ?_
  rintro mm aa wl10 ⟨k, hAwl10, cwl10, hm, hk, he⟩
  refine (show cw Tryd.prog 41 _ _ _ wl10 from ?_) aa hAwl10
  clear hAwl10
  have zwl10 := cwl10.size
  have hl : zs.length = ys.length := by omega
  refine sx_seq fun K11 k11 => ?_
  refine sx_seq fun K12 k12 => sx_region ?_
  refine sm rfl rfl rfl rfl ?_
  refine sx_pure rfl rfl rfl (px_ge rfl rfl) ?_
  refine wl_nil (q_n (k12 _ _ ?_))
  refine sx_condP rfl (fun h60 => ?_) (fun h60 => ?_)
  ·
   refine sx_skip ?_
   refine q_n (k11 _ _ ?_)
   refine sx_seq fun K13 k13 => ?_
   refine sx_block ?_
   refine sx_seq fun K14 k14 => ?_
   refine sx_seq fun K15 k15 => ?_
   have f16 := hva0.ext cwl10
   have f17 := hvb0.ext cwl10
   refine dx_region (fun w' => Chg 0 0 wl10 w') (by kernel_rfl) (Chg.zero (Chg.drew _)) ?_
   have d18 := Chg.drew wl10
   have s18 : Chg 0 0 wl10 (World.drew wl10) := Chg.zero (Chg.drew _)
   have y18 : (World.drew wl10).heap.size = wl10.heap.size := rfl
   generalize World.drew wl10 = w18 at *
   have zw18 := d18.size
   refine dx_take 0 rfl rfl rfl rfl (by kernel_rfl) (by kernel_rfl) (by kernel_rfl) s18 (fun _ hS => px_move rfl) ?_
   refine dx_take 1 rfl rfl rfl rfl (by kernel_rfl) (by kernel_rfl) (by kernel_rfl) s18 (fun _ hS => px_move rfl) ?_
   refine dx_take 2 rfl rfl rfl rfl (by kernel_rfl) (by kernel_rfl) (by kernel_rfl) s18 (fun _ hS => px_index1 (j := (k - 1)) rfl rfl (by omega) Tryd.underlying44 Tryd.sizeOf3 ((f16).chg hS (by omega)) (by omega)) ?_
   refine dx_take 3 rfl rfl rfl rfl (by kernel_rfl) (by kernel_rfl) (by kernel_rfl) s18 (fun _ hS => px_load rfl (((f16).chg hS (by omega)).load1 (at_int (by omega)) Tryd.isAgg3)) ?_
   refine dx_take 4 rfl rfl rfl rfl (by kernel_rfl) (by kernel_rfl) (by kernel_rfl) s18 (fun _ hS => px_move rfl) ?_
   refine dx_take 5 rfl rfl rfl rfl (by kernel_rfl) (by kernel_rfl) (by kernel_rfl) s18 (fun _ hS => px_move rfl) ?_
   refine dx_take 6 rfl rfl rfl rfl (by kernel_rfl) (by kernel_rfl) (by kernel_rfl) s18 (fun _ hS => px_index1 (j := (k - 1)) rfl rfl (by omega) Tryd.underlying44 Tryd.sizeOf3 ((f17).chg hS (by omega)) (by omega)) ?_
   refine dx_take 7 rfl rfl rfl rfl (by kernel_rfl) (by kernel_rfl) (by kernel_rfl) s18 (fun _ hS => px_load rfl (((f17).chg hS (by omega)).load1 (at_int (by omega)) Tryd.isAgg3)) ?_
   refine dx_take 8 rfl rfl rfl rfl (by kernel_rfl) (by kernel_rfl) (by kernel_rfl) s18 (fun _ hS => px_lt rfl rfl) ?_
   refine dx_done (by kernel_rfl) ?_
   refine q_n (k15 _ _ ?_)
   refine sx_condP rfl (fun h61 => ?_) (fun h61 => ?_)
   ·
    refine sx_seq fun K19 k19 => sx_region ?_
    refine sa rfl rfl rfl rfl ?_
    refine wl_nil (q_n (k19 _ _ ?_))
    refine sx_sub (Sub.cons (t := 0) rfl (.cons (t := 1) rfl (.cons (t := 4) rfl (.cons (t := 5) rfl (.nil))))) ?_
    refine sx_retc ?_
    refine q_r (q_br (q_r (q_r (q_br (q_r (sx_ret1 Tryd.results56 rfl ?_))))))
    have hlt := cmpL_lt hl (k := k - 1) (by omega) (by rw [Nat.sub_add_cancel (by omega)]; exact he) (h61)
    exact ⟨iEq hlt.symm, (cwl10.t d18)⟩
   ·
    refine sx_skip ?_
    refine q_n (k14 _ _ ?_)
    refine sx_seq fun K20 k20 => ?_
    have f21 := f16.ext d18
    have f22 := f17.ext d18
    refine dx_region (fun w' => Chg 0 0 w18 w') (by kernel_rfl) (Chg.zero (Chg.drew _)) ?_
    have d23 := Chg.drew w18
    have s23 : Chg 0 0 w18 (World.drew w18) := Chg.zero (Chg.drew _)
    have y23 : (World.drew w18).heap.size = w18.heap.size := rfl
    generalize World.drew w18 = w23 at *
    have zw23 := d23.size
    refine dx_take 0 rfl rfl rfl rfl (by kernel_rfl) (by kernel_rfl) (by kernel_rfl) s23 (fun _ hS => px_move rfl) ?_
    refine dx_take 1 rfl rfl rfl rfl (by kernel_rfl) (by kernel_rfl) (by kernel_rfl) s23 (fun _ hS => px_move rfl) ?_
    refine dx_take 2 rfl rfl rfl rfl (by kernel_rfl) (by kernel_rfl) (by kernel_rfl) s23 (fun _ hS => px_index1 (j := (k - 1)) rfl rfl (by omega) Tryd.underlying44 Tryd.sizeOf3 ((f21).chg hS (by omega)) (by omega)) ?_
    refine dx_take 3 rfl rfl rfl rfl (by kernel_rfl) (by kernel_rfl) (by kernel_rfl) s23 (fun _ hS => px_load rfl (((f21).chg hS (by omega)).load1 (at_int (by omega)) Tryd.isAgg3)) ?_
    refine dx_take 4 rfl rfl rfl rfl (by kernel_rfl) (by kernel_rfl) (by kernel_rfl) s23 (fun _ hS => px_move rfl) ?_
    refine dx_take 5 rfl rfl rfl rfl (by kernel_rfl) (by kernel_rfl) (by kernel_rfl) s23 (fun _ hS => px_move rfl) ?_
    refine dx_take 6 rfl rfl rfl rfl (by kernel_rfl) (by kernel_rfl) (by kernel_rfl) s23 (fun _ hS => px_index1 (j := (k - 1)) rfl rfl (by omega) Tryd.underlying44 Tryd.sizeOf3 ((f22).chg hS (by omega)) (by omega)) ?_
    refine dx_take 7 rfl rfl rfl rfl (by kernel_rfl) (by kernel_rfl) (by kernel_rfl) s23 (fun _ hS => px_load rfl (((f22).chg hS (by omega)).load1 (at_int (by omega)) Tryd.isAgg3)) ?_
    refine dx_take 8 rfl rfl rfl rfl (by kernel_rfl) (by kernel_rfl) (by kernel_rfl) s23 (fun _ hS => px_gt rfl rfl) ?_
    refine dx_done (by kernel_rfl) ?_
    refine q_n (k20 _ _ ?_)
    refine sx_sub (Sub.cons (t := 0) rfl (.cons (t := 1) rfl (.cons (t := 5) rfl (.cons (t := 40) rfl (.nil))))) ?_
    refine sx_condP rfl (fun h64 => ?_) (fun h64 => ?_)
    ·
     refine sx_seq fun K24 k24 => sx_region ?_
     refine sa rfl rfl rfl rfl ?_
     refine wl_nil (q_n (k24 _ _ ?_))
     refine sx_retc ?_
     refine q_br (q_r (q_r (q_br (q_r (sx_ret1 Tryd.results56 rfl ?_)))))
     have hlt := cmpL_gt hl (k := k - 1) (by omega) (by rw [Nat.sub_add_cancel (by omega)]; exact he) (h64)
     exact ⟨iEq hlt.symm, ((cwl10.t d18).t d23)⟩
    ·
     refine sx_skip ?_
     refine q_bn (q_n (k13 _ _ ?_))
     refine sx_region ?_
     refine sm rfl rfl rfl rfl ?_
     refine sx_pure rfl rfl rfl (px_sub rfl rfl (by omega)) ?_
     refine sa rfl rfl rfl rfl ?_
     refine wl_nil ?_
     exact fun a ha => ⟨_, by omega, (k - 1), ha.sub (Sub.cons (t := 0) rfl (.cons (t := 1) rfl (.cons (t := 5) (look_int (t := 5) rfl (by first | omega | simp)) (.nil)))), ((cwl10.t d18).t d23), rfl, by omega, drop_succ_eq (by omega) (by omega) (by rw [Nat.sub_add_cancel (by omega)]; exact he) (by omega)⟩
  ·
   refine sx_exit ?_
   refine q_e (q_e (q_bx (q_n (k8 _ _ ?_))))
   refine sx_seq fun K25 k25 => sx_region ?_
   refine sa rfl rfl rfl rfl ?_
   refine wl_nil (q_n (k25 _ _ ?_))
   refine sx_retc ?_
   refine sx_ret1 Tryd.results56 rfl ?_
   have e1 : k = 0 := by omega
   subst e1
   have e2 : zs = ys := by simpa using he
   subst e2
   exact ⟨iEq (cmpL_self zs).symm, cwl10⟩

theorem c_IntCmp {w : World} {va : Value} {lva uva : Nat} {x : Int} {vb : Value} {lvb uvb : Nat} {y : Int} (hva : Sl w lva uva va (dg x.natAbs)) (hvb : Sl w lvb uvb vb (dg y.natAbs)) (hbx : (dg x.natAbs).length ≤ 50) (hby : (dg y.natAbs).length ≤ 50) :
  Ret Tryd.prog 50 [.agg #[.bool (ng x), va], .agg #[.bool (ng y), vb]] w fun v w' => v = .int .i64 (cmpI x y) ∧ Chg 0 0 w w' := by
 have hva0 := hva.fit
 have hvb0 := hvb.fit
 refine sx_enter Tryd.func50 rfl Tryd.ntmps50 (Nat.le_of_ble_eq_true rfl) ?_
 refine sx_seq fun K1 k1 => sx_region ?_
 refine sx_box [.bool (ng x), va] rfl rfl rfl (fun b2 w3 eb2 sb2 fb2 cb2 => ?_)
 have zw3 := cb2.size
 refine sx_box [.bool (ng y), vb] rfl rfl rfl (fun b4 w5 eb4 sb4 fb4 cb4 => ?_)
 have zw5 := cb4.size
 refine sa rfl rfl rfl rfl ?_
 refine wl_nil (q_n (k1 _ _ ?_))
 refine sx_seq fun K6 k6 => ?_
 refine sx_block ?_
 refine sx_seq fun K7 k7 => sx_region ?_
 have f8 := fb2.ext cb4
 refine sx_pure rfl rfl rfl (px_load rfl (f8.loadA (vs := [.bool (ng x), va]) (look_lit rfl) Tryd.isAgg53 Tryd.sizeOf53)) ?_
 have f9 := hva0.ext cb2
 have f10 := f9.ext cb4
 refine sx_call rfl rfl Tryd.call48 (c_sIntOk f10 (by omega)) (fun v11 w11 p11 => ?_)
 obtain ⟨rfl, c11⟩ := p11
 have zw11 := c11.size
 refine sx_pure rfl rfl rfl (px_notP rfl) ?_
 refine sm rfl rfl rfl rfl ?_
 have h89 : ¬ (¬ (IOk (ng x) (dg x.natAbs))) := by first | exact fun h => h (IOk_ng (by omega)) | exact fun h => h (IOk_ng (by assumption))
 refine sx_tmpPF (t := 9) rfl h89 ?_
 refine sx_guardT rfl rfl rfl ?_
 have f12 := fb4.ext c11
 refine sx_pure rfl rfl rfl (px_load rfl (f12.loadA (vs := [.bool (ng y), vb]) (look_lit rfl) Tryd.isAgg53 Tryd.sizeOf53)) ?_
 refine sx_guardT rfl rfl rfl ?_
 have f13 := hvb0.ext cb2
 have f14 := f13.ext cb4
 have f15 := f14.ext c11
 refine sx_call rfl rfl Tryd.call48 (c_sIntOk f15 (by omega)) (fun v16 w16 p16 => ?_)
 obtain ⟨rfl, c16⟩ := p16
 have zw16 := c16.size
 refine sx_guardT rfl rfl rfl ?_
 refine sx_pure rfl rfl rfl (px_notP rfl) ?_
 refine sx_pure rfl rfl rfl (px_pick rfl rfl) ?_
 refine sa rfl rfl rfl rfl ?_
 refine wl_nil (q_n (k7 _ _ ?_))
 have h89x1 : ¬ (¬ (IOk (ng y) (dg y.natAbs))) := by first | exact fun h => h (IOk_ng (by omega)) | exact fun h => h (IOk_ng (by assumption))
 refine sx_condPF rfl h89x1 ?_
 refine sx_seq fun K17 k17 => sx_region ?_
 refine sx_pure rfl rfl rfl (px_field rfl xfld53x0) ?_
 have f18 := f8.ext c11
 have f19 := f18.ext c16
 refine sx_pure rfl rfl rfl (px_load rfl (f19.load1 rfl Tryd.isAgg4)) ?_
 refine sm rfl rfl rfl rfl ?_
 refine sx_tmpB (t := 17) rfl (fun h91 => ?_) (fun h91 => ?_)
 ·
  refine sx_guardT rfl rfl rfl ?_
  refine sx_pure rfl rfl rfl (px_field rfl xfld53x0) ?_
  refine sx_guardT rfl rfl rfl ?_
  have f20 := f12.ext c16
  refine sx_pure rfl rfl rfl (px_load rfl (f20.load1 rfl Tryd.isAgg4)) ?_
  refine sx_guardT rfl rfl rfl ?_
  refine sx_pure rfl rfl rfl (px_not rfl) ?_
  refine sx_pure rfl rfl rfl (px_pick rfl rfl) ?_
  refine sa rfl rfl rfl rfl ?_
  refine wl_nil (q_n (k17 _ _ ?_))
  refine sx_sub (Sub.cons (t := 2) rfl (.cons (t := 3) rfl (.cons (t := 4) rfl (.cons (t := 14) rfl (.nil))))) ?_
  refine sx_condB rfl (fun h91x1 => ?_) (fun h91x1 => ?_)
  ·
   refine sx_seq fun K21 k21 => sx_region ?_
   refine sa rfl rfl rfl rfl ?_
   refine wl_nil (q_n (k21 _ _ ?_))
   refine sx_retc ?_
   refine q_br (q_r (sx_ret1 Tryd.results50 rfl ?_))
   exact ⟨iEq (cmpI_lt (by simp_all [ng] <;> omega)), (((cb2.t cb4).t c11).t c16)⟩
  ·
   refine sx_seq fun K22 k22 => sx_region ?_
   refine sx_pure rfl rfl rfl (px_field rfl xfld53x0) ?_
   refine sx_pure rfl rfl rfl (px_load rfl (f19.load1 rfl Tryd.isAgg4)) ?_
   refine sx_pure rfl rfl rfl (px_not rfl) ?_
   refine sm rfl rfl rfl rfl ?_
   refine sx_tmpB (t := 26) rfl (fun h93 => ?_) (fun h93 => ?_)
   ·
    refine sx_guardT rfl rfl rfl ?_
    refine sx_pure rfl rfl rfl (px_field rfl xfld53x0) ?_
    refine sx_guardT rfl rfl rfl ?_
    refine sx_pure rfl rfl rfl (px_load rfl (f20.load1 rfl Tryd.isAgg4)) ?_
    refine sx_pure rfl rfl rfl (px_pick rfl rfl) ?_
    refine sa rfl rfl rfl rfl ?_
    refine wl_nil (q_n (k22 _ _ ?_))
    refine sx_condB rfl (fun h93x1 => ?_) (fun h93x1 => ?_)
    ·
     refine sx_seq fun K23 k23 => sx_region ?_
     refine sa rfl rfl rfl rfl ?_
     refine wl_nil (q_n (k23 _ _ ?_))
     refine sx_retc ?_
     refine q_br (q_r (sx_ret1 Tryd.results50 rfl ?_))
     exact ⟨iEq (cmpI_gt (by simp_all [ng] <;> omega)), (((cb2.t cb4).t c11).t c16)⟩
    ·
     refine sx_seq fun K24 k24 => sx_region ?_
     refine sx_pure rfl rfl rfl (px_field rfl xfld53x0) ?_
     refine sx_pure rfl rfl rfl (px_load rfl (f19.load1 rfl Tryd.isAgg4)) ?_
     refine sa rfl rfl rfl rfl ?_
     refine wl_nil (q_n (k24 _ _ ?_))
     refine sx_sub (Sub.cons (t := 2) rfl (.cons (t := 3) rfl (.cons (t := 4) rfl (.cons (t := 30) rfl (.nil))))) ?_
     refine sx_condB rfl (fun h95 => ?_) (fun h95 => ?_)
     ·
      refine sx_seq fun K25 k25 => sx_region ?_
      refine sx_pure rfl rfl rfl (px_field rfl xfld53x1) ?_
      refine sx_pure rfl rfl rfl (px_load rfl (f20.load1 rfl Tryd.isAgg44)) ?_
      refine sx_pure rfl rfl rfl (px_field rfl xfld53x1) ?_
      refine sx_pure rfl rfl rfl (px_load rfl (f19.load1 rfl Tryd.isAgg44)) ?_
      have f26 := f15.ext c16
      have f27 := f10.ext c11
      have f28 := f27.ext c16
      refine sx_call rfl rfl Tryd.call56 (c_l02Cmp f26 f28 (by omega)) (fun v29 w29 p29 => ?_)
      obtain ⟨rfl, c29⟩ := p29
      have zw29 := c29.size
      refine sa rfl rfl rfl rfl ?_
      refine wl_nil (q_n (k25 _ _ ?_))
      refine sx_retc ?_
      refine q_br (q_r (sx_ret1 Tryd.results50 rfl ?_))
      exact ⟨iEq (cmpI_mm (by simp_all [ng] <;> omega) (by simp_all [ng] <;> omega)), ((((cb2.t cb4).t c11).t c16).t c29)⟩
     ·
      refine sx_skip ?_
      refine q_bn (q_n (k6 _ _ ?_))
      refine sx_seq fun K30 k30 => sx_region ?_
      refine sx_pure rfl rfl rfl (px_field rfl xfld53x1) ?_
      refine sx_pure rfl rfl rfl (px_load rfl (f19.load1 rfl Tryd.isAgg44)) ?_
      refine sx_pure rfl rfl rfl (px_field rfl xfld53x1) ?_
      refine sx_pure rfl rfl rfl (px_load rfl (f20.load1 rfl Tryd.isAgg44)) ?_
      have f31 := f10.ext c11
      have f32 := f31.ext c16
      have f33 := f15.ext c16
      refine sx_call rfl rfl Tryd.call56 (c_l02Cmp f32 f33 (by omega)) (fun v34 w34 p34 => ?_)
      obtain ⟨rfl, c34⟩ := p34
      have zw34 := c34.size
      refine sa rfl rfl rfl rfl ?_
      refine wl_nil (q_n (k30 _ _ ?_))
      refine sx_retc ?_
      refine sx_ret1 Tryd.results50 rfl ?_
      exact ⟨iEq (cmpI_nn (by simp_all [ng] <;> omega) (by simp_all [ng] <;> omega)), ((((cb2.t cb4).t c11).t c16).t c34)⟩
   ·
    refine sx_guardF rfl rfl rfl rfl rfl rfl ?_
    refine sx_guardF rfl rfl rfl rfl rfl rfl ?_
    refine sx_pure rfl rfl rfl (px_pick rfl rfl) ?_
    refine sa rfl rfl rfl rfl ?_
    refine wl_nil (q_n (k22 _ _ ?_))
    refine sx_condF rfl ?_
    refine sx_seq fun K35 k35 => sx_region ?_
    refine sx_pure rfl rfl rfl (px_field rfl xfld53x0) ?_
    refine sx_pure rfl rfl rfl (px_load rfl (f19.load1 rfl Tryd.isAgg4)) ?_
    refine sa rfl rfl rfl rfl ?_
    refine wl_nil (q_n (k35 _ _ ?_))
    refine sx_sub (Sub.cons (t := 2) rfl (.cons (t := 3) rfl (.cons (t := 4) rfl (.cons (t := 30) rfl (.nil))))) ?_
    refine sx_condB rfl (fun h95 => ?_) (fun h95 => ?_)
    ·
     refine sx_seq fun K36 k36 => sx_region ?_
     refine sx_pure rfl rfl rfl (px_field rfl xfld53x1) ?_
     refine sx_pure rfl rfl rfl (px_load rfl (f20.load1 rfl Tryd.isAgg44)) ?_
     refine sx_pure rfl rfl rfl (px_field rfl xfld53x1) ?_
     refine sx_pure rfl rfl rfl (px_load rfl (f19.load1 rfl Tryd.isAgg44)) ?_
     have f37 := f15.ext c16
     have f38 := f10.ext c11
     have f39 := f38.ext c16
     refine sx_call rfl rfl Tryd.call56 (c_l02Cmp f37 f39 (by omega)) (fun v40 w40 p40 => ?_)
     obtain ⟨rfl, c40⟩ := p40
     have zw40 := c40.size
     refine sa rfl rfl rfl rfl ?_
     refine wl_nil (q_n (k36 _ _ ?_))
     refine sx_retc ?_
     refine q_br (q_r (sx_ret1 Tryd.results50 rfl ?_))
     exact ⟨iEq (cmpI_mm (by simp_all [ng] <;> omega) (by simp_all [ng] <;> omega)), ((((cb2.t cb4).t c11).t c16).t c40)⟩
    ·
     refine sx_skip ?_
     refine q_bn (q_n (k6 _ _ ?_))
     refine sx_seq fun K41 k41 => sx_region ?_
     refine sx_pure rfl rfl rfl (px_field rfl xfld53x1) ?_
     refine sx_pure rfl rfl rfl (px_load rfl (f19.load1 rfl Tryd.isAgg44)) ?_
     refine sx_pure rfl rfl rfl (px_field rfl xfld53x1) ?_
     refine sx_pure rfl rfl rfl (px_load rfl (f20.load1 rfl Tryd.isAgg44)) ?_
     have f42 := f10.ext c11
     have f43 := f42.ext c16
     have f44 := f15.ext c16
     refine sx_call rfl rfl Tryd.call56 (c_l02Cmp f43 f44 (by omega)) (fun v45 w45 p45 => ?_)
     obtain ⟨rfl, c45⟩ := p45
     have zw45 := c45.size
     refine sa rfl rfl rfl rfl ?_
     refine wl_nil (q_n (k41 _ _ ?_))
     refine sx_retc ?_
     refine sx_ret1 Tryd.results50 rfl ?_
     exact ⟨iEq (cmpI_nn (by simp_all [ng] <;> omega) (by simp_all [ng] <;> omega)), ((((cb2.t cb4).t c11).t c16).t c45)⟩
 ·
  refine sx_guardF rfl rfl rfl rfl rfl rfl ?_
  refine sx_guardF rfl rfl rfl rfl rfl rfl ?_
  refine sx_guardF rfl rfl rfl rfl rfl rfl ?_
  refine sx_pure rfl rfl rfl (px_pick rfl rfl) ?_
  refine sa rfl rfl rfl rfl ?_
  refine wl_nil (q_n (k17 _ _ ?_))
  refine sx_sub (Sub.cons (t := 2) rfl (.cons (t := 3) rfl (.cons (t := 4) rfl (.cons (t := 14) rfl (.nil))))) ?_
  refine sx_condF rfl ?_
  refine sx_seq fun K46 k46 => sx_region ?_
  refine sx_pure rfl rfl rfl (px_field rfl xfld53x0) ?_
  refine sx_pure rfl rfl rfl (px_load rfl (f19.load1 rfl Tryd.isAgg4)) ?_
  refine sx_pure rfl rfl rfl (px_not rfl) ?_
  refine sm rfl rfl rfl rfl ?_
  refine sx_tmpB (t := 26) rfl (fun h93 => ?_) (fun h93 => ?_)
  ·
   refine sx_guardT rfl rfl rfl ?_
   refine sx_pure rfl rfl rfl (px_field rfl xfld53x0) ?_
   refine sx_guardT rfl rfl rfl ?_
   have f47 := f12.ext c16
   refine sx_pure rfl rfl rfl (px_load rfl (f47.load1 rfl Tryd.isAgg4)) ?_
   refine sx_pure rfl rfl rfl (px_pick rfl rfl) ?_
   refine sa rfl rfl rfl rfl ?_
   refine wl_nil (q_n (k46 _ _ ?_))
   refine sx_condB rfl (fun h93x1 => ?_) (fun h93x1 => ?_)
   ·
    refine sx_seq fun K48 k48 => sx_region ?_
    refine sa rfl rfl rfl rfl ?_
    refine wl_nil (q_n (k48 _ _ ?_))
    refine sx_retc ?_
    refine q_br (q_r (sx_ret1 Tryd.results50 rfl ?_))
    exact ⟨iEq (cmpI_gt (by simp_all [ng] <;> omega)), (((cb2.t cb4).t c11).t c16)⟩
   ·
    refine sx_seq fun K49 k49 => sx_region ?_
    refine sx_pure rfl rfl rfl (px_field rfl xfld53x0) ?_
    refine sx_pure rfl rfl rfl (px_load rfl (f19.load1 rfl Tryd.isAgg4)) ?_
    refine sa rfl rfl rfl rfl ?_
    refine wl_nil (q_n (k49 _ _ ?_))
    refine sx_sub (Sub.cons (t := 2) rfl (.cons (t := 3) rfl (.cons (t := 4) rfl (.cons (t := 30) rfl (.nil))))) ?_
    refine sx_condB rfl (fun h95 => ?_) (fun h95 => ?_)
    ·
     refine sx_seq fun K50 k50 => sx_region ?_
     refine sx_pure rfl rfl rfl (px_field rfl xfld53x1) ?_
     refine sx_pure rfl rfl rfl (px_load rfl (f47.load1 rfl Tryd.isAgg44)) ?_
     refine sx_pure rfl rfl rfl (px_field rfl xfld53x1) ?_
     refine sx_pure rfl rfl rfl (px_load rfl (f19.load1 rfl Tryd.isAgg44)) ?_
     have f51 := f15.ext c16
     have f52 := f10.ext c11
     have f53 := f52.ext c16
     refine sx_call rfl rfl Tryd.call56 (c_l02Cmp f51 f53 (by omega)) (fun v54 w54 p54 => ?_)
     obtain ⟨rfl, c54⟩ := p54
     have zw54 := c54.size
     refine sa rfl rfl rfl rfl ?_
     refine wl_nil (q_n (k50 _ _ ?_))
     refine sx_retc ?_
     refine q_br (q_r (sx_ret1 Tryd.results50 rfl ?_))
     exact ⟨iEq (cmpI_mm (by simp_all [ng] <;> omega) (by simp_all [ng] <;> omega)), ((((cb2.t cb4).t c11).t c16).t c54)⟩
    ·
     refine sx_skip ?_
     refine q_bn (q_n (k6 _ _ ?_))
     refine sx_seq fun K55 k55 => sx_region ?_
     refine sx_pure rfl rfl rfl (px_field rfl xfld53x1) ?_
     refine sx_pure rfl rfl rfl (px_load rfl (f19.load1 rfl Tryd.isAgg44)) ?_
     refine sx_pure rfl rfl rfl (px_field rfl xfld53x1) ?_
     refine sx_pure rfl rfl rfl (px_load rfl (f47.load1 rfl Tryd.isAgg44)) ?_
     have f56 := f10.ext c11
     have f57 := f56.ext c16
     have f58 := f15.ext c16
     refine sx_call rfl rfl Tryd.call56 (c_l02Cmp f57 f58 (by omega)) (fun v59 w59 p59 => ?_)
     obtain ⟨rfl, c59⟩ := p59
     have zw59 := c59.size
     refine sa rfl rfl rfl rfl ?_
     refine wl_nil (q_n (k55 _ _ ?_))
     refine sx_retc ?_
     refine sx_ret1 Tryd.results50 rfl ?_
     exact ⟨iEq (cmpI_nn (by simp_all [ng] <;> omega) (by simp_all [ng] <;> omega)), ((((cb2.t cb4).t c11).t c16).t c59)⟩
  ·
   refine sx_guardF rfl rfl rfl rfl rfl rfl ?_
   refine sx_guardF rfl rfl rfl rfl rfl rfl ?_
   refine sx_pure rfl rfl rfl (px_pick rfl rfl) ?_
   refine sa rfl rfl rfl rfl ?_
   refine wl_nil (q_n (k46 _ _ ?_))
   refine sx_condF rfl ?_
   refine sx_seq fun K60 k60 => sx_region ?_
   refine sx_pure rfl rfl rfl (px_field rfl xfld53x0) ?_
   refine sx_pure rfl rfl rfl (px_load rfl (f19.load1 rfl Tryd.isAgg4)) ?_
   refine sa rfl rfl rfl rfl ?_
   refine wl_nil (q_n (k60 _ _ ?_))
   refine sx_sub (Sub.cons (t := 2) rfl (.cons (t := 3) rfl (.cons (t := 4) rfl (.cons (t := 30) rfl (.nil))))) ?_
   refine sx_condB rfl (fun h95 => ?_) (fun h95 => ?_)
   ·
    refine sx_seq fun K61 k61 => sx_region ?_
    refine sx_pure rfl rfl rfl (px_field rfl xfld53x1) ?_
    have f62 := f12.ext c16
    refine sx_pure rfl rfl rfl (px_load rfl (f62.load1 rfl Tryd.isAgg44)) ?_
    refine sx_pure rfl rfl rfl (px_field rfl xfld53x1) ?_
    refine sx_pure rfl rfl rfl (px_load rfl (f19.load1 rfl Tryd.isAgg44)) ?_
    have f63 := f15.ext c16
    have f64 := f10.ext c11
    have f65 := f64.ext c16
    refine sx_call rfl rfl Tryd.call56 (c_l02Cmp f63 f65 (by omega)) (fun v66 w66 p66 => ?_)
    obtain ⟨rfl, c66⟩ := p66
    have zw66 := c66.size
    refine sa rfl rfl rfl rfl ?_
    refine wl_nil (q_n (k61 _ _ ?_))
    refine sx_retc ?_
    refine q_br (q_r (sx_ret1 Tryd.results50 rfl ?_))
    exact ⟨iEq (cmpI_mm (by simp_all [ng] <;> omega) (by simp_all [ng] <;> omega)), ((((cb2.t cb4).t c11).t c16).t c66)⟩
   ·
    refine sx_skip ?_
    refine q_bn (q_n (k6 _ _ ?_))
    refine sx_seq fun K67 k67 => sx_region ?_
    refine sx_pure rfl rfl rfl (px_field rfl xfld53x1) ?_
    refine sx_pure rfl rfl rfl (px_load rfl (f19.load1 rfl Tryd.isAgg44)) ?_
    refine sx_pure rfl rfl rfl (px_field rfl xfld53x1) ?_
    have f68 := f12.ext c16
    refine sx_pure rfl rfl rfl (px_load rfl (f68.load1 rfl Tryd.isAgg44)) ?_
    have f69 := f10.ext c11
    have f70 := f69.ext c16
    have f71 := f15.ext c16
    refine sx_call rfl rfl Tryd.call56 (c_l02Cmp f70 f71 (by omega)) (fun v72 w72 p72 => ?_)
    obtain ⟨rfl, c72⟩ := p72
    have zw72 := c72.size
    refine sa rfl rfl rfl rfl ?_
    refine wl_nil (q_n (k67 _ _ ?_))
    refine sx_retc ?_
    refine sx_ret1 Tryd.results50 rfl ?_
    exact ⟨iEq (cmpI_nn (by simp_all [ng] <;> omega) (by simp_all [ng] <;> omega)), ((((cb2.t cb4).t c11).t c16).t c72)⟩

theorem c_IntCmpZ {w : World} {va : Value} {lva uva : Nat} {x : Int} {b : Bool} {vb : Value} {lvb uvb : Nat} {ys : List Int} (hva : Sl w lva uva va (dg x.natAbs)) (hvb : Sl w lvb uvb vb (ys)) (hbx : (dg x.natAbs).length ≤ 50) (hb : b = false) (hy : ys = []) :
  Ret Tryd.prog 50 [.agg #[.bool (ng x), va], .agg #[.bool b, vb]] w fun v w' => v = .int .i64 (cmpI x 0) ∧ Chg 0 0 w w' := by
 have h := c_IntCmp (y := 0) (vb := vb) hva (by rw [Int.natAbs_zero, dg_zero]; rw [hy] at hvb; exact hvb) hbx (by rw [Int.natAbs_zero, dg_zero]; simp)
 rw [hb, show false = ng 0 by simp [ng]]; exact h

theorem c_sIntSign {w : World} {va : Value} {lva uva : Nat} {x : Int} (hva : Sl w lva uva va (dg x.natAbs)) (hbx : (dg x.natAbs).length ≤ 50) :
  Ret Tryd.prog 41 [.agg #[.bool (ng x), va]] w fun v w' => v = .int .i64 (cmpI x 0) ∧ Chg 0 0 w w' := by
 have hva0 := hva.fit
 refine sx_enter Tryd.func41 rfl Tryd.ntmps41 (Nat.le_of_ble_eq_true rfl) ?_
 refine sx_seq fun K1 k1 => sx_region ?_
 refine sx_box [.bool (ng x), va] rfl rfl rfl (fun b2 w3 eb2 sb2 fb2 cb2 => ?_)
 have zw3 := cb2.size
 refine sa rfl rfl rfl rfl ?_
 refine wl_nil (q_n (k1 _ _ ?_))
 refine sx_seq fun K4 k4 => sx_region ?_
 refine sx_pure rfl rfl rfl (px_load rfl (fb2.loadA (vs := [.bool (ng x), va]) (look_lit rfl) Tryd.isAgg53 Tryd.sizeOf53)) ?_
 refine sx_pure rfl rfl rfl (px_build rfl (xbld53x  _)) ?_
 have f5 := hva0.ext cb2
 refine sx_call rfl rfl Tryd.call50 (c_IntCmpZ f5 (Sv.nil _ 0 0 1) (by omega) (rfl) (rfl)) (fun v6 w6 p6 => ?_)
 obtain ⟨rfl, c6⟩ := p6
 have zw6 := c6.size
 refine sa rfl rfl rfl rfl ?_
 refine wl_nil (q_n (k4 _ _ ?_))
 refine sx_retc ?_
 refine sx_ret1 Tryd.results41 rfl ?_
 exact ⟨rfl, (cb2.t c6)⟩

theorem c_sRateOk {w : World} {f1 : ByteArray} {t1 : ByteArray} {n1 : Bool} {v1 : Value} {lv1 uv1 : Nat} {z1 : List Int} {p1 : Int} (hv1 : Sl w lv1 uv1 v1 (z1)) (h63 : z1.length ≤ 4611686018427387904) :
  Ret Tryd.prog 31 [.agg #[.string f1, .string t1, .bool n1, v1, .int .i64 p1]] w fun v w' => v = .bool (decide (RateP f1 t1 n1 z1 p1)) ∧ Chg 0 0 w w' := by
 have hv10 := hv1.fit
 refine sx_enter Tryd.func31 rfl Tryd.ntmps31 (Nat.le_of_ble_eq_true rfl) ?_
 refine sx_seq fun K1 k1 => sx_region ?_
 refine sx_box [.string f1, .string t1, .bool n1, v1, .int .i64 p1] rfl rfl rfl (fun b2 w3 eb2 sb2 fb2 cb2 => ?_)
 have zw3 := cb2.size
 refine sa rfl rfl rfl rfl ?_
 refine wl_nil (q_n (k1 _ _ ?_))
 refine sx_seq fun K4 k4 => sx_region ?_
 refine sx_pure rfl rfl rfl (px_field rfl xfld57x0) ?_
 refine sx_pure rfl rfl rfl (px_load rfl (fb2.load1 rfl Tryd.isAgg9)) ?_
 refine sx_call rfl rfl Tryd.call22 (c_sCurKnown) (fun v5 w5 p5 => ?_)
 obtain ⟨rfl, c5⟩ := p5
 have zw5 := c5.size
 refine sm rfl rfl rfl rfl ?_
 refine sx_tmpP (t := 6) rfl (fun h7 => ?_) (fun h7 => ?_)
 ·
  refine sx_guardT rfl rfl rfl ?_
  refine sx_pure rfl rfl rfl (px_field rfl xfld57x1) ?_
  refine sx_guardT rfl rfl rfl ?_
  have f6 := fb2.ext c5
  refine sx_pure rfl rfl rfl (px_load rfl (f6.load1 rfl Tryd.isAgg9)) ?_
  refine sx_guardT rfl rfl rfl ?_
  refine sx_call rfl rfl Tryd.call22 (c_sCurKnown) (fun v7 w7 p7 => ?_)
  obtain ⟨rfl, c7⟩ := p7
  have zw7 := c7.size
  refine sx_pure rfl rfl rfl (px_pick rfl rfl) ?_
  refine sm rfl rfl rfl rfl ?_
  refine sx_tmpP (t := 11) rfl (fun h7x1 => ?_) (fun h7x1 => ?_)
  ·
   refine sx_guardT rfl rfl rfl ?_
   refine sx_pure rfl rfl rfl (px_field rfl xfld57x0) ?_
   refine sx_guardT rfl rfl rfl ?_
   have f8 := f6.ext c7
   refine sx_pure rfl rfl rfl (px_load rfl (f8.load1 rfl Tryd.isAgg9)) ?_
   refine sx_guardT rfl rfl rfl ?_
   refine sx_pure rfl rfl rfl (px_field rfl xfld57x1) ?_
   refine sx_guardT rfl rfl rfl ?_
   refine sx_pure rfl rfl rfl (px_load rfl (f8.load1 rfl Tryd.isAgg9)) ?_
   refine sx_guardT rfl rfl rfl ?_
   refine sx_pure rfl rfl rfl (px_neS rfl rfl) ?_
   refine sx_pure rfl rfl rfl (px_pick rfl rfl) ?_
   refine sm rfl rfl rfl rfl ?_
   refine sx_tmpP (t := 18) rfl (fun h7x2 => ?_) (fun h7x2 => ?_)
   ·
    refine sx_guardT rfl rfl rfl ?_
    refine sx_pure rfl rfl rfl (px_field rfl xfld57x2) ?_
    refine sx_guardT rfl rfl rfl ?_
    refine sx_pure rfl rfl rfl (px_load rfl (f8.loadA (vs := [.bool n1, v1, .int .i64 p1]) (look_lit rfl) Tryd.isAgg55 Tryd.sizeOf55)) ?_
    refine sx_guardT rfl rfl rfl ?_
    have f9 := hv10.ext cb2
    have f10 := f9.ext c5
    have f11 := f10.ext c7
    refine sx_call rfl rfl Tryd.call40 (c_sDecOk f11 (by omega)) (fun v12 w12 p12 => ?_)
    obtain ⟨rfl, c12⟩ := p12
    have zw12 := c12.size
    refine sx_pure rfl rfl rfl (px_pick rfl rfl) ?_
    refine sm rfl rfl rfl rfl ?_
    refine sx_tmpP (t := 23) rfl (fun h7x3 => ?_) (fun h7x3 => ?_)
    ·
     have hD := h7x3
     obtain ⟨x1, rfl, rfl, hx1⟩ := hD.int
     have hvx := vI_ng x1
     have hsx := sign_gt (x := x1)
     have hcx := cmpI_gt0 (x := x1)
     refine sx_guardT rfl rfl rfl ?_
     refine sx_pure rfl rfl rfl (px_field rfl xfld57x2) ?_
     refine sx_guardT rfl rfl rfl ?_
     refine sx_pure rfl rfl rfl (px_field rfl xfld55x0) ?_
     refine sx_guardT rfl rfl rfl ?_
     have f13 := f8.ext c12
     refine sx_pure rfl rfl rfl (px_load rfl (f13.loadA (vs := [.bool (ng x1), v1]) (look_lit rfl) Tryd.isAgg53 Tryd.sizeOf53)) ?_
     refine sx_guardT rfl rfl rfl ?_
     have f14 := f11.ext c12
     refine sx_call rfl rfl Tryd.call41 (c_sIntSign f14 (by omega)) (fun v15 w15 p15 => ?_)
     obtain ⟨rfl, c15⟩ := p15
     have zw15 := c15.size
     refine sx_guardT rfl rfl rfl ?_
     refine sx_pure rfl rfl rfl (px_gt rfl rfl) ?_
     refine sx_pure rfl rfl rfl (px_pick rfl rfl) ?_
     refine sm rfl rfl rfl rfl ?_
     refine sx_tmpP (t := 30) rfl (fun h7x4 => ?_) (fun h7x4 => ?_)
     ·
      refine sx_guardT rfl rfl rfl ?_
      refine sx_pure rfl rfl rfl (px_field rfl xfld57x2) ?_
      refine sx_guardT rfl rfl rfl ?_
      refine sx_pure rfl rfl rfl (px_field rfl xfld55x0) ?_
      refine sx_guardT rfl rfl rfl ?_
      refine sx_pure rfl rfl rfl (px_field rfl xfld53x1) ?_
      refine sx_guardT rfl rfl rfl ?_
      have f16 := f13.ext c15
      refine sx_pure rfl rfl rfl (px_load rfl (f16.load1 rfl Tryd.isAgg44)) ?_
      refine sx_guardT rfl rfl rfl ?_
      have f17 := f14.ext c15
      refine sx_pure rfl rfl rfl (px_len rfl Tryd.underlying44 f17) ?_
      refine sx_guardT rfl rfl rfl ?_
      refine sx_pure rfl rfl rfl (px_le rfl rfl) ?_
      refine sx_pure rfl rfl rfl (px_pick rfl rfl) ?_
      refine sa rfl rfl rfl rfl ?_
      refine wl_nil (q_n (k4 _ _ ?_))
      refine sx_sub (Sub.cons (t := 2) rfl (.nil)) ?_
      refine sx_retc ?_
      refine sx_ret1 Tryd.results31 rfl ?_
      exact ⟨(by first | exact bTrue (by grind [RateP]) | exact bFalse (by grind [RateP]) | exact bIff (by grind [RateP])), ((((cb2.t c5).t c7).t c12).t c15)⟩
     ·
      refine sx_guardF rfl rfl rfl rfl rfl rfl ?_
      refine sx_guardF rfl rfl rfl rfl rfl rfl ?_
      refine sx_guardF rfl rfl rfl rfl rfl rfl ?_
      refine sx_guardF rfl rfl rfl rfl rfl rfl ?_
      refine sx_guardF rfl rfl rfl rfl rfl rfl ?_
      refine sx_guardF rfl rfl rfl rfl rfl rfl ?_
      refine sx_pure rfl rfl rfl (px_pick rfl rfl) ?_
      refine sa rfl rfl rfl rfl ?_
      refine wl_nil (q_n (k4 _ _ ?_))
      refine sx_sub (Sub.cons (t := 2) rfl (.nil)) ?_
      refine sx_retc ?_
      refine sx_ret1 Tryd.results31 rfl ?_
      exact ⟨(by first | exact bTrue (by grind [RateP]) | exact bFalse (by grind [RateP]) | exact bIff (by grind [RateP])), ((((cb2.t c5).t c7).t c12).t c15)⟩
    ·
     refine sx_guardF rfl rfl rfl rfl rfl rfl ?_
     refine sx_guardF rfl rfl rfl rfl rfl rfl ?_
     refine sx_guardF rfl rfl rfl rfl rfl rfl ?_
     refine sx_guardF rfl rfl rfl rfl rfl rfl ?_
     refine sx_guardF rfl rfl rfl rfl rfl rfl ?_
     refine sx_pure rfl rfl rfl (px_pick rfl rfl) ?_
     refine sm rfl rfl rfl rfl ?_
     refine sx_guardF rfl rfl rfl rfl rfl rfl ?_
     refine sx_guardF rfl rfl rfl rfl rfl rfl ?_
     refine sx_guardF rfl rfl rfl rfl rfl rfl ?_
     refine sx_guardF rfl rfl rfl rfl rfl rfl ?_
     refine sx_guardF rfl rfl rfl rfl rfl rfl ?_
     refine sx_guardF rfl rfl rfl rfl rfl rfl ?_
     refine sx_pure rfl rfl rfl (px_pick rfl rfl) ?_
     refine sa rfl rfl rfl rfl ?_
     refine wl_nil (q_n (k4 _ _ ?_))
     refine sx_sub (Sub.cons (t := 2) rfl (.nil)) ?_
     refine sx_retc ?_
     refine sx_ret1 Tryd.results31 rfl ?_
     exact ⟨(by first | exact bTrue (by grind [RateP]) | exact bFalse (by grind [RateP]) | exact bIff (by grind [RateP])), (((cb2.t c5).t c7).t c12)⟩
   ·
    refine sx_guardF rfl rfl rfl rfl rfl rfl ?_
    refine sx_guardF rfl rfl rfl rfl rfl rfl ?_
    refine sx_guardF rfl rfl rfl rfl rfl rfl ?_
    refine sx_pure rfl rfl rfl (px_pick rfl rfl) ?_
    refine sm rfl rfl rfl rfl ?_
    refine sx_guardF rfl rfl rfl rfl rfl rfl ?_
    refine sx_guardF rfl rfl rfl rfl rfl rfl ?_
    refine sx_guardF rfl rfl rfl rfl rfl rfl ?_
    refine sx_guardF rfl rfl rfl rfl rfl rfl ?_
    refine sx_guardF rfl rfl rfl rfl rfl rfl ?_
    refine sx_pure rfl rfl rfl (px_pick rfl rfl) ?_
    refine sm rfl rfl rfl rfl ?_
    refine sx_guardF rfl rfl rfl rfl rfl rfl ?_
    refine sx_guardF rfl rfl rfl rfl rfl rfl ?_
    refine sx_guardF rfl rfl rfl rfl rfl rfl ?_
    refine sx_guardF rfl rfl rfl rfl rfl rfl ?_
    refine sx_guardF rfl rfl rfl rfl rfl rfl ?_
    refine sx_guardF rfl rfl rfl rfl rfl rfl ?_
    refine sx_pure rfl rfl rfl (px_pick rfl rfl) ?_
    refine sa rfl rfl rfl rfl ?_
    refine wl_nil (q_n (k4 _ _ ?_))
    refine sx_sub (Sub.cons (t := 2) rfl (.nil)) ?_
    refine sx_retc ?_
    refine sx_ret1 Tryd.results31 rfl ?_
    exact ⟨(by first | exact bTrue (by grind [RateP]) | exact bFalse (by grind [RateP]) | exact bIff (by grind [RateP])), ((cb2.t c5).t c7)⟩
  ·
   refine sx_guardF rfl rfl rfl rfl rfl rfl ?_
   refine sx_guardF rfl rfl rfl rfl rfl rfl ?_
   refine sx_guardF rfl rfl rfl rfl rfl rfl ?_
   refine sx_guardF rfl rfl rfl rfl rfl rfl ?_
   refine sx_guardF rfl rfl rfl rfl rfl rfl ?_
   refine sx_pure rfl rfl rfl (px_pick rfl rfl) ?_
   refine sm rfl rfl rfl rfl ?_
   refine sx_guardF rfl rfl rfl rfl rfl rfl ?_
   refine sx_guardF rfl rfl rfl rfl rfl rfl ?_
   refine sx_guardF rfl rfl rfl rfl rfl rfl ?_
   refine sx_pure rfl rfl rfl (px_pick rfl rfl) ?_
   refine sm rfl rfl rfl rfl ?_
   refine sx_guardF rfl rfl rfl rfl rfl rfl ?_
   refine sx_guardF rfl rfl rfl rfl rfl rfl ?_
   refine sx_guardF rfl rfl rfl rfl rfl rfl ?_
   refine sx_guardF rfl rfl rfl rfl rfl rfl ?_
   refine sx_guardF rfl rfl rfl rfl rfl rfl ?_
   refine sx_pure rfl rfl rfl (px_pick rfl rfl) ?_
   refine sm rfl rfl rfl rfl ?_
   refine sx_guardF rfl rfl rfl rfl rfl rfl ?_
   refine sx_guardF rfl rfl rfl rfl rfl rfl ?_
   refine sx_guardF rfl rfl rfl rfl rfl rfl ?_
   refine sx_guardF rfl rfl rfl rfl rfl rfl ?_
   refine sx_guardF rfl rfl rfl rfl rfl rfl ?_
   refine sx_guardF rfl rfl rfl rfl rfl rfl ?_
   refine sx_pure rfl rfl rfl (px_pick rfl rfl) ?_
   refine sa rfl rfl rfl rfl ?_
   refine wl_nil (q_n (k4 _ _ ?_))
   refine sx_sub (Sub.cons (t := 2) rfl (.nil)) ?_
   refine sx_retc ?_
   refine sx_ret1 Tryd.results31 rfl ?_
   exact ⟨(by first | exact bTrue (by grind [RateP]) | exact bFalse (by grind [RateP]) | exact bIff (by grind [RateP])), ((cb2.t c5).t c7)⟩
 ·
  refine sx_guardF rfl rfl rfl rfl rfl rfl ?_
  refine sx_guardF rfl rfl rfl rfl rfl rfl ?_
  refine sx_guardF rfl rfl rfl rfl rfl rfl ?_
  refine sx_pure rfl rfl rfl (px_pick rfl rfl) ?_
  refine sm rfl rfl rfl rfl ?_
  refine sx_guardF rfl rfl rfl rfl rfl rfl ?_
  refine sx_guardF rfl rfl rfl rfl rfl rfl ?_
  refine sx_guardF rfl rfl rfl rfl rfl rfl ?_
  refine sx_guardF rfl rfl rfl rfl rfl rfl ?_
  refine sx_guardF rfl rfl rfl rfl rfl rfl ?_
  refine sx_pure rfl rfl rfl (px_pick rfl rfl) ?_
  refine sm rfl rfl rfl rfl ?_
  refine sx_guardF rfl rfl rfl rfl rfl rfl ?_
  refine sx_guardF rfl rfl rfl rfl rfl rfl ?_
  refine sx_guardF rfl rfl rfl rfl rfl rfl ?_
  refine sx_pure rfl rfl rfl (px_pick rfl rfl) ?_
  refine sm rfl rfl rfl rfl ?_
  refine sx_guardF rfl rfl rfl rfl rfl rfl ?_
  refine sx_guardF rfl rfl rfl rfl rfl rfl ?_
  refine sx_guardF rfl rfl rfl rfl rfl rfl ?_
  refine sx_guardF rfl rfl rfl rfl rfl rfl ?_
  refine sx_guardF rfl rfl rfl rfl rfl rfl ?_
  refine sx_pure rfl rfl rfl (px_pick rfl rfl) ?_
  refine sm rfl rfl rfl rfl ?_
  refine sx_guardF rfl rfl rfl rfl rfl rfl ?_
  refine sx_guardF rfl rfl rfl rfl rfl rfl ?_
  refine sx_guardF rfl rfl rfl rfl rfl rfl ?_
  refine sx_guardF rfl rfl rfl rfl rfl rfl ?_
  refine sx_guardF rfl rfl rfl rfl rfl rfl ?_
  refine sx_guardF rfl rfl rfl rfl rfl rfl ?_
  refine sx_pure rfl rfl rfl (px_pick rfl rfl) ?_
  refine sa rfl rfl rfl rfl ?_
  refine wl_nil (q_n (k4 _ _ ?_))
  refine sx_sub (Sub.cons (t := 2) rfl (.nil)) ?_
  refine sx_retc ?_
  refine sx_ret1 Tryd.results31 rfl ?_
  exact ⟨(by first | exact bTrue (by grind [RateP]) | exact bFalse (by grind [RateP]) | exact bIff (by grind [RateP])), (cb2.t c5)⟩

theorem c_l10At {w : World} {vt : Value} {lvt uvt : Nat} {ts : List Rt} {vvt : List Value} {a : ByteArray} {b : ByteArray} (hvt : RtS w lvt uvt vt ts vvt) (h63 : ts.length ≤ 4611686018427387904) :
  Ret Tryd.prog 32 [vt, .string a, .string b] w fun v w' => v = .int .i64 (atI ts a b) ∧ Chg 0 0 w w' := by
 have hvt0 := hvt.fit
 refine sx_enter Tryd.func32 rfl Tryd.ntmps32 (Nat.le_of_ble_eq_true rfl) ?_
 refine sx_seq fun K1 k1 => sx_region ?_
 refine sa rfl rfl rfl rfl ?_
 refine wl_nil (q_n (k1 _ _ ?_))
 refine sx_seq fun K2 k2 => ?_
 refine sx_seq fun K3 k3 => sx_region ?_
 refine sm rfl rfl rfl rfl ?_
 refine sx_pure rfl rfl rfl (px_len rfl Tryd.underlying28 hvt0.sv) ?_
 refine sm rfl rfl rfl rfl ?_
 refine wl_nil (q_n (k3 _ _ ?_))
 refine sx_block ?_
 refine sx_loop (fun mm aa w' => ∃ (k : Nat), Agr 28 [(1, .string a), (2, .string b), (9, vt), (10, .int .i64 (↑(ts).length)), (11, .int .i64 ↑k)] aa ∧ Chg 0 0 w w' ∧ (mm = ts.length - k) ∧ (k ≤ ts.length) ∧ (∀ i, i < k → ¬ ((ts.getD i rt0).1 = a ∧ (ts.getD i rt0).2.1 = b))) (_) (fun a ha => ⟨0, ha.sub (Sub.cons (t := 1) rfl (.cons (t := 2) rfl (.cons (t := 9) rfl (.cons (t := 10) (look_int (t := 10) rfl (by first | omega | simp)) (.cons (t := 11) (look_int (t := 11) rfl (by first | omega | simp)) (.nil)))))), Chg.refl _ _ _, rfl, by omega, fun i hi => by omega⟩) ?_
 rintro mm aa wl4 ⟨k, hAwl4, cwl4, hm, hk, hn⟩
 refine (show cw Tryd.prog 28 _ _ _ wl4 from ?_) aa hAwl4
 clear hAwl4
 have zwl4 := cwl4.size
 refine sx_seq fun K5 k5 => sx_region ?_
 refine sx_pure rfl rfl rfl (px_lt rfl rfl) ?_
 refine wl_nil (q_n (k5 _ _ ?_))
 refine sx_seq fun K6 k6 => ?_
 refine sx_condP rfl (fun h11 => ?_) (fun h11 => ?_)
 ·
  refine sx_skip ?_
  refine q_n (k6 _ _ ?_)
  refine sx_seq fun K7 k7 => ?_
  refine sx_block ?_
  refine sx_seq fun K8 k8 => sx_region ?_
  refine sm rfl rfl rfl rfl ?_
  have f9 := hvt0.ext cwl4
  refine sx_pure rfl rfl rfl (px_indexK (j := k) rfl rfl (by omega) Tryd.underlying28 Tryd.sizeOf57 f9.sv (by omega)) ?_
  refine sx_pure rfl rfl rfl (px_load rfl (f9.sv.loadA (rt_look f9.len (by omega)) Tryd.isAgg57 Tryd.sizeOf57)) ?_
  refine sx_alloc [.string (⟨#[]⟩), .string (⟨#[]⟩), .bool false, (.slice none 0 0), .int .i64 0] rfl Tryd.zeroValue57 rfl (fun b10 w11 eb10 sb10 fb10 cb10 => ?_)
  have zw11 := cb10.size
  refine sa rfl rfl rfl rfl ?_
  have f13 := (f9.nest k (by omega)).ext cb10
  refine sx_store (vs := [.string ((ts.getD k rt0).1), .string ((ts.getD k rt0).2.1), .bool ((ts.getD k rt0).2.2.1), (vvt.getD k vz), .int .i64 ((ts.getD k rt0).2.2.2.2)]) rfl rfl fb10 rfl Tryd.sizeOf57 (Nat.le_of_ble_eq_true rfl) (one_cons rfl (one_cons rfl (one_cons rfl (one_cons f13.one (one_cons rfl one_nil))))) (fun w12 sw12 fw12 cw12 => ?_)
  have zw12 := cw12.size
  have gw12 : Blk w12 b10 [.string ((ts.getD k rt0).1), .string ((ts.getD k rt0).2.1), .bool ((ts.getD k rt0).2.2.1), (vvt.getD k vz), .int .i64 ((ts.getD k rt0).2.2.2.2)] 57 := fw12
  refine wl_nil (q_n (k8 _ _ ?_))
  refine sx_seq fun K14 k14 => sx_region ?_
  refine sx_pure rfl rfl rfl (px_field rfl xfld57x0) ?_
  refine sx_pure rfl rfl rfl (px_load rfl (gw12.load1 rfl Tryd.isAgg9)) ?_
  refine sm rfl rfl rfl rfl ?_
  refine sx_pure rfl rfl rfl (px_eqS rfl rfl) ?_
  refine sm rfl rfl rfl rfl ?_
  refine sx_tmpP (t := 20) rfl (fun h12 => ?_) (fun h12 => ?_)
  ·
   refine sx_guardT rfl rfl rfl ?_
   refine sx_pure rfl rfl rfl (px_field rfl xfld57x1) ?_
   refine sx_guardT rfl rfl rfl ?_
   refine sx_pure rfl rfl rfl (px_load rfl (gw12.load1 rfl Tryd.isAgg9)) ?_
   refine sx_guardT rfl rfl rfl ?_
   refine sm rfl rfl rfl rfl ?_
   refine sx_guardT rfl rfl rfl ?_
   refine sx_pure rfl rfl rfl (px_eqS rfl rfl) ?_
   refine sx_pure rfl rfl rfl (px_pick rfl rfl) ?_
   refine wl_nil (q_n (k14 _ _ ?_))
   refine sx_sub (Sub.cons (t := 1) rfl (.cons (t := 2) rfl (.cons (t := 7) rfl (.cons (t := 9) rfl (.cons (t := 10) rfl (.cons (t := 11) rfl (.cons (t := 25) rfl (.nil)))))))) ?_
   refine sx_condP rfl (fun h12x1 => ?_) (fun h12x1 => ?_)
   ·
    refine sx_seq fun K15 k15 => sx_region ?_
    refine sm rfl rfl rfl rfl ?_
    refine sa rfl rfl rfl rfl ?_
    refine wl_nil (q_n (k15 _ _ ?_))
    refine sx_retc ?_
    refine q_br (q_r (q_r (q_br (q_r (sx_ret1 Tryd.results32 rfl ?_)))))
    have q16 := Chg.step (l := 0) (h := 0) (Chg.zero (l := 0) (h := 0) (cwl4.t cb10)) cw12 (by omega)
    exact ⟨(by rw [atI_some (by omega) hn ⟨h12, h12x1⟩]), q16⟩
   ·
    refine sx_skip ?_
    refine q_bn (q_n (k7 _ _ ?_))
    refine sx_region ?_
    refine sx_pure rfl rfl rfl (px_add rfl rfl (by omega)) ?_
    refine sm rfl rfl rfl rfl ?_
    refine wl_nil ?_
    have q17 := Chg.step (l := 0) (h := 0) (Chg.zero (l := 0) (h := 0) (cwl4.t cb10)) cw12 (by omega)
    exact fun a ha => ⟨_, by omega, (k + 1), ha.sub (Sub.cons (t := 1) rfl (.cons (t := 2) rfl (.cons (t := 9) rfl (.cons (t := 10) rfl (.cons (t := 11) (look_int (t := 11) rfl (by first | omega | simp)) (.nil)))))), q17, rfl, by omega, upto_next hn (fun hh => by first | exact h12 hh.1 | exact h12x1 hh.2)⟩
  ·
   refine sx_guardF rfl rfl rfl rfl rfl rfl ?_
   refine sx_guardF rfl rfl rfl rfl rfl rfl ?_
   refine sx_guardF rfl rfl rfl rfl rfl rfl ?_
   refine sx_guardF rfl rfl rfl rfl rfl rfl ?_
   refine sx_pure rfl rfl rfl (px_pick rfl rfl) ?_
   refine wl_nil (q_n (k14 _ _ ?_))
   refine sx_sub (Sub.cons (t := 1) rfl (.cons (t := 2) rfl (.cons (t := 7) rfl (.cons (t := 9) rfl (.cons (t := 10) rfl (.cons (t := 11) rfl (.cons (t := 25) rfl (.nil)))))))) ?_
   refine sx_condF rfl ?_
   refine sx_skip ?_
   refine q_bn (q_n (k7 _ _ ?_))
   refine sx_region ?_
   refine sx_pure rfl rfl rfl (px_add rfl rfl (by omega)) ?_
   refine sm rfl rfl rfl rfl ?_
   refine wl_nil ?_
   have q18 := Chg.step (l := 0) (h := 0) (Chg.zero (l := 0) (h := 0) (cwl4.t cb10)) cw12 (by omega)
   exact fun a ha => ⟨_, by omega, (k + 1), ha.sub (Sub.cons (t := 1) rfl (.cons (t := 2) rfl (.cons (t := 9) rfl (.cons (t := 10) rfl (.cons (t := 11) (look_int (t := 11) rfl (by first | omega | simp)) (.nil)))))), q18, rfl, by omega, upto_next hn (fun hh => by first | exact h12 hh.1 | exact h12x1 hh.2)⟩
 ·
  refine sx_exit ?_
  refine q_e (q_e (q_bx (q_n (k2 _ _ ?_))))
  refine sx_seq fun K19 k19 => sx_region ?_
  refine sa rfl rfl rfl rfl ?_
  refine wl_nil (q_n (k19 _ _ ?_))
  refine sx_retc ?_
  refine sx_ret1 Tryd.results32 rfl ?_
  exact ⟨(by rw [atI_none (fun i hi => hn i (by omega))]), cwl4⟩

theorem c_sRatesOk {w : World} {pv : ByteArray} {vt : Value} {lvt uvt : Nat} {ts : List Rt} {vvt : List Value} (hvt : RtS w lvt uvt vt ts vvt) (h63 : ts.length ≤ 4611686018427387904) (hz : ∀ i, i < ts.length → (ts.getD i rt0).2.2.2.1.length ≤ 4611686018427387904) :
  Ret Tryd.prog 21 [.agg #[.string pv, vt]] w fun v w' => v = .bool (decide (RsOk pv ts)) ∧ Chg 0 0 w w' := by
 have hvt0 := hvt.fit
 refine sx_enter Tryd.func21 rfl Tryd.ntmps21 (Nat.le_of_ble_eq_true rfl) ?_
 refine sx_seq fun K1 k1 => sx_region ?_
 refine sx_box [.string pv, vt] rfl rfl rfl (fun b2 w3 eb2 sb2 fb2 cb2 => ?_)
 have zw3 := cb2.size
 refine sa rfl rfl rfl rfl ?_
 refine wl_nil (q_n (k1 _ _ ?_))
 refine sx_seq fun K4 k4 => ?_
 refine sx_seq fun K5 k5 => sx_region ?_
 refine sx_pure rfl rfl rfl (px_field rfl xfld30x0) ?_
 refine sx_pure rfl rfl rfl (px_load rfl (fb2.load1 rfl Tryd.isAgg9)) ?_
 refine sx_call rfl rfl Tryd.call22 (c_sCurKnown) (fun v6 w6 p6 => ?_)
 obtain ⟨rfl, c6⟩ := p6
 have zw6 := c6.size
 refine sx_pure rfl rfl rfl (px_notP rfl) ?_
 refine sm rfl rfl rfl rfl ?_
 refine sx_tmpP (t := 9) rfl (fun h21 => ?_) (fun h21 => ?_)
 ·
  refine sx_guardF rfl rfl rfl rfl rfl rfl ?_
  refine sx_guardF rfl rfl rfl rfl rfl rfl ?_
  refine sx_guardF rfl rfl rfl rfl rfl rfl ?_
  refine sx_guardF rfl rfl rfl rfl rfl rfl ?_
  refine sx_pure rfl rfl rfl (px_pick rfl rfl) ?_
  refine wl_nil (q_n (k5 _ _ ?_))
  refine sx_condT rfl ?_
  refine sx_seq fun K7 k7 => sx_region ?_
  refine sa rfl rfl rfl rfl ?_
  refine wl_nil (q_n (k7 _ _ ?_))
  refine sx_retc ?_
  refine q_r (sx_ret1 Tryd.results21 rfl ?_)
  exact ⟨bFalse (fun h => by first | exact absurd h.1 (by assumption) | (have := h.2.1; omega)), (cb2.t c6)⟩
 ·
  refine sx_guardT rfl rfl rfl ?_
  refine sx_pure rfl rfl rfl (px_field rfl xfld30x1) ?_
  refine sx_guardT rfl rfl rfl ?_
  have f8 := fb2.ext c6
  refine sx_pure rfl rfl rfl (px_load rfl (f8.load1 rfl Tryd.isAgg28)) ?_
  refine sx_guardT rfl rfl rfl ?_
  have f9 := hvt0.ext cb2
  have f10 := f9.ext c6
  refine sx_pure rfl rfl rfl (px_len rfl Tryd.underlying28 f10.sv) ?_
  refine sx_guardT rfl rfl rfl ?_
  refine sx_pure rfl rfl rfl (px_gt rfl rfl) ?_
  refine sx_pure rfl rfl rfl (px_pick rfl rfl) ?_
  refine wl_nil (q_n (k5 _ _ ?_))
  refine sx_condP rfl (fun h21x1 => ?_) (fun h21x1 => ?_)
  ·
   refine sx_seq fun K11 k11 => sx_region ?_
   refine sa rfl rfl rfl rfl ?_
   refine wl_nil (q_n (k11 _ _ ?_))
   refine sx_retc ?_
   refine q_r (sx_ret1 Tryd.results21 rfl ?_)
   exact ⟨bFalse (fun h => by first | exact absurd h.1 (by assumption) | (have := h.2.1; omega)), (cb2.t c6)⟩
  ·
   refine sx_skip ?_
   refine q_n (k4 _ _ ?_)
   refine sx_seq fun K12 k12 => ?_
   refine sx_seq fun K13 k13 => sx_region ?_
   refine sx_pure rfl rfl rfl (px_field rfl xfld30x1) ?_
   refine sx_pure rfl rfl rfl (px_load rfl (f8.load1 rfl Tryd.isAgg28)) ?_
   refine sx_pure rfl rfl rfl (px_len rfl Tryd.underlying28 f10.sv) ?_
   refine sm rfl rfl rfl rfl ?_
   refine wl_nil (q_n (k13 _ _ ?_))
   refine sx_sub (Sub.cons (t := 1) rfl (.cons (t := 2) rfl (.cons (t := 16) rfl (.cons (t := 17) rfl (.cons (t := 18) rfl (.nil)))))) ?_
   refine sx_block ?_
   refine sx_loop (fun mm aa w' => ∃ (k : Nat), Agr 38 [(1, .pointer (some ⟨b2, 0, none⟩)), (16, vt), (17, .int .i64 (↑(ts).length)), (18, .int .i64 ↑k)] aa ∧ Chg b2 (b2 + 1) w6 w' ∧ Blk w' b2 [.string pv, vt] 30 ∧ (mm = ts.length - k) ∧ (k ≤ ts.length) ∧ (AllTo ts k)) (_) (fun a ha => ⟨0, ha.sub (Sub.cons (t := 1) rfl (.cons (t := 16) rfl (.cons (t := 17) (look_int (t := 17) rfl (by first | omega | simp)) (.cons (t := 18) (look_int (t := 18) rfl (by first | omega | simp)) (.nil))))), Chg.refl _ _ _, f8, rfl, by omega, AllTo_zero ts⟩) ?_
   rintro mm aa wl14 ⟨k, hAwl14, cwl14, hb_b2, hm, hk, hall⟩
   refine (show cw Tryd.prog 38 _ _ _ wl14 from ?_) aa hAwl14
   clear hAwl14
   have zwl14 := cwl14.size
   refine sx_seq fun K15 k15 => sx_region ?_
   refine sx_pure rfl rfl rfl (px_lt rfl rfl) ?_
   refine wl_nil (q_n (k15 _ _ ?_))
   refine sx_seq fun K16 k16 => ?_
   refine sx_condP rfl (fun h24 => ?_) (fun h24 => ?_)
   ·
    refine sx_skip ?_
    refine q_n (k16 _ _ ?_)
    refine sx_seq fun K17 k17 => ?_
    refine sx_block ?_
    refine sx_seq fun K18 k18 => sx_region ?_
    refine sm rfl rfl rfl rfl ?_
    have f19 := f10.chg cwl14 (by omega)
    refine sx_pure rfl rfl rfl (px_indexK (j := k) rfl rfl (by omega) Tryd.underlying28 Tryd.sizeOf57 f19.sv (by omega)) ?_
    refine sx_pure rfl rfl rfl (px_load rfl (f19.sv.loadA (rt_look f19.len (by omega)) Tryd.isAgg57 Tryd.sizeOf57)) ?_
    refine sx_alloc [.string (⟨#[]⟩), .string (⟨#[]⟩), .bool false, (.slice none 0 0), .int .i64 0] rfl Tryd.zeroValue57 rfl (fun b20 w21 eb20 sb20 fb20 cb20 => ?_)
    have zw21 := cb20.size
    refine sa rfl rfl rfl rfl ?_
    have f23 := (f19.nest k (by omega)).ext cb20
    refine sx_store (vs := [.string ((ts.getD k rt0).1), .string ((ts.getD k rt0).2.1), .bool ((ts.getD k rt0).2.2.1), (vvt.getD k vz), .int .i64 ((ts.getD k rt0).2.2.2.2)]) rfl rfl fb20 rfl Tryd.sizeOf57 (Nat.le_of_ble_eq_true rfl) (one_cons rfl (one_cons rfl (one_cons rfl (one_cons f23.one (one_cons rfl one_nil))))) (fun w22 sw22 fw22 cw22 => ?_)
    have zw22 := cw22.size
    have gw22 : Blk w22 b20 [.string ((ts.getD k rt0).1), .string ((ts.getD k rt0).2.1), .bool ((ts.getD k rt0).2.2.1), (vvt.getD k vz), .int .i64 ((ts.getD k rt0).2.2.2.2)] 57 := fw22
    refine wl_nil (q_n (k18 _ _ ?_))
    refine sx_seq fun K24 k24 => sx_region ?_
    refine sx_pure rfl rfl rfl (px_load rfl (gw22.loadA (vs := [.string ((ts.getD k rt0).1), .string ((ts.getD k rt0).2.1), .bool ((ts.getD k rt0).2.2.1), (vvt.getD k vz), .int .i64 ((ts.getD k rt0).2.2.2.2)]) (look_lit rfl) Tryd.isAgg57 Tryd.sizeOf57)) ?_
    have f25 := f23.chg cw22 (by omega)
    refine sx_call rfl rfl Tryd.call31 (c_sRateOk f25 (hz k (by omega))) (fun v26 w26 p26 => ?_)
    obtain ⟨rfl, c26⟩ := p26
    have zw26 := c26.size
    refine sx_pure rfl rfl rfl (px_notP rfl) ?_
    refine sm rfl rfl rfl rfl ?_
    refine sx_tmpP (t := 26) rfl (fun h25 => ?_) (fun h25 => ?_)
    ·
     refine sx_guardF rfl rfl rfl rfl rfl rfl ?_
     refine sx_guardF rfl rfl rfl rfl rfl rfl ?_
     refine sx_guardF rfl rfl rfl rfl rfl rfl ?_
     refine sx_guardF rfl rfl rfl rfl rfl rfl ?_
     refine sx_guardF rfl rfl rfl rfl rfl rfl ?_
     refine sx_guardF rfl rfl rfl rfl rfl rfl ?_
     refine sx_guardF rfl rfl rfl rfl rfl rfl ?_
     refine sx_guardF rfl rfl rfl rfl rfl rfl ?_
     refine sx_guardF rfl rfl rfl rfl rfl rfl ?_
     refine sx_pure rfl rfl rfl (px_pick rfl rfl) ?_
     refine wl_nil (q_n (k24 _ _ ?_))
     refine sx_sub (Sub.cons (t := 1) rfl (.cons (t := 16) rfl (.cons (t := 17) rfl (.cons (t := 18) rfl (.cons (t := 36) rfl (.nil)))))) ?_
     refine sx_condT rfl ?_
     refine sx_seq fun K27 k27 => sx_region ?_
     refine sa rfl rfl rfl rfl ?_
     refine wl_nil (q_n (k27 _ _ ?_))
     refine sx_retc ?_
     refine q_br (q_r (q_r (q_br (q_r (sx_ret1 Tryd.results21 rfl ?_)))))
     have q28 := Chg.step (l := 0) (h := 0) (Chg.zero (l := 0) (h := 0) (cb2.t c6)) cwl14 (by omega)
     have q29 := Chg.step (l := 0) (h := 0) q28 cb20 (by omega)
     have q30 := Chg.step (l := 0) (h := 0) q29 cw22 (by omega)
     have q31 := Chg.step (l := 0) (h := 0) q30 c26 (by omega)
     exact ⟨(by first | exact bFalse (rsok_no_rate (k := k) (by omega) h25) | exact bFalse (rsok_no_key (k := k) (by omega) (fun hh => h25x1 ((atI_self (by omega)).2 hh)))), q31⟩
    ·
     refine sx_guardT rfl rfl rfl ?_
     refine sx_pure rfl rfl rfl (px_field rfl xfld30x1) ?_
     refine sx_guardT rfl rfl rfl ?_
     have f32 := hb_b2.ext cb20
     have f33 := f32.chg cw22 (by omega)
     have f34 := f33.ext c26
     refine sx_pure rfl rfl rfl (px_load rfl (f34.load1 rfl Tryd.isAgg28)) ?_
     refine sx_guardT rfl rfl rfl ?_
     refine sx_pure rfl rfl rfl (px_field rfl xfld57x0) ?_
     refine sx_guardT rfl rfl rfl ?_
     have f35 := gw22.ext c26
     refine sx_pure rfl rfl rfl (px_load rfl (f35.load1 rfl Tryd.isAgg9)) ?_
     refine sx_guardT rfl rfl rfl ?_
     refine sx_pure rfl rfl rfl (px_field rfl xfld57x1) ?_
     refine sx_guardT rfl rfl rfl ?_
     refine sx_pure rfl rfl rfl (px_load rfl (f35.load1 rfl Tryd.isAgg9)) ?_
     refine sx_guardT rfl rfl rfl ?_
     have f36 := f19.ext cb20
     have f37 := f36.chg cw22 (by omega)
     have f38 := f37.ext c26
     refine sx_call rfl rfl Tryd.call32 (c_l10At f38 (by omega)) (fun v39 w39 p39 => ?_)
     obtain ⟨rfl, c39⟩ := p39
     have zw39 := c39.size
     refine sx_guardT rfl rfl rfl ?_
     refine sm rfl rfl rfl rfl ?_
     refine sx_guardT rfl rfl rfl ?_
     refine sx_pure rfl rfl rfl (px_ne rfl rfl) ?_
     refine sx_pure rfl rfl rfl (px_pick rfl rfl) ?_
     refine wl_nil (q_n (k24 _ _ ?_))
     refine sx_sub (Sub.cons (t := 1) rfl (.cons (t := 16) rfl (.cons (t := 17) rfl (.cons (t := 18) rfl (.cons (t := 36) rfl (.nil)))))) ?_
     refine sx_condP rfl (fun h25x1 => ?_) (fun h25x1 => ?_)
     ·
      refine sx_seq fun K40 k40 => sx_region ?_
      refine sa rfl rfl rfl rfl ?_
      refine wl_nil (q_n (k40 _ _ ?_))
      refine sx_retc ?_
      refine q_br (q_r (q_r (q_br (q_r (sx_ret1 Tryd.results21 rfl ?_)))))
      have q41 := Chg.step (l := 0) (h := 0) (Chg.zero (l := 0) (h := 0) (cb2.t c6)) cwl14 (by omega)
      have q42 := Chg.step (l := 0) (h := 0) q41 cb20 (by omega)
      have q43 := Chg.step (l := 0) (h := 0) q42 cw22 (by omega)
      have q44 := Chg.step (l := 0) (h := 0) q43 (c26.t c39) (by omega)
      exact ⟨(by first | exact bFalse (rsok_no_rate (k := k) (by omega) h25) | exact bFalse (rsok_no_key (k := k) (by omega) (fun hh => h25x1 ((atI_self (by omega)).2 hh)))), q44⟩
     ·
      refine sx_skip ?_
      refine q_bn (q_n (k17 _ _ ?_))
      refine sx_region ?_
      refine sx_pure rfl rfl rfl (px_add rfl rfl (by omega)) ?_
      refine sm rfl rfl rfl rfl ?_
      refine wl_nil ?_
      have q45 := Chg.step (l := b2) (h := (b2 + 1)) cwl14 cb20 (by omega)
      have q46 := Chg.step (l := b2) (h := (b2 + 1)) q45 cw22 (by omega)
      have q47 := Chg.step (l := b2) (h := (b2 + 1)) q46 (c26.t c39) (by omega)
      have f48 := f34.ext c39
      exact fun a ha => ⟨_, by omega, (k + 1), ha.sub (Sub.cons (t := 1) rfl (.cons (t := 16) rfl (.cons (t := 17) rfl (.cons (t := 18) (look_int (t := 18) rfl (by first | omega | simp)) (.nil))))), q47, f48, rfl, by omega, AllTo_succ hall (Decidable.not_not.1 h25) ((atI_self (by omega)).1 (Decidable.not_not.1 h25x1))⟩
   ·
    refine sx_exit ?_
    refine q_e (q_e (q_bx (q_n (k12 _ _ ?_))))
    refine sx_seq fun K49 k49 => sx_region ?_
    refine sa rfl rfl rfl rfl ?_
    refine wl_nil (q_n (k49 _ _ ?_))
    refine sx_retc ?_
    refine sx_ret1 Tryd.results21 rfl ?_
    have ek : k = ts.length := by omega
    subst ek
    have q50 := Chg.step (l := 0) (h := 0) (Chg.zero (l := 0) (h := 0) (cb2.t c6)) cwl14 (by omega)
    exact ⟨bTrue ⟨Decidable.not_not.1 h21, by omega, hall⟩, q50⟩

theorem c_l10Leg {w : World} {pv : ByteArray} {vt : Value} {lvt uvt : Nat} {ts : List Rt} {vvt : List Value} {a : ByteArray} {b : ByteArray} (hvt : RtS w lvt uvt vt ts vvt) (h63 : ts.length ≤ 4611686018427387904) :
  Ret Tryd.prog 23 [.agg #[.string pv, vt], .string a, .string b] w fun v w' => v = .int .i64 (leg ts a b) ∧ Chg 0 0 w w' := by
 have hvt0 := hvt.fit
 refine sx_enter Tryd.func23 rfl Tryd.ntmps23 (Nat.le_of_ble_eq_true rfl) ?_
 refine sx_seq fun K1 k1 => sx_region ?_
 refine sx_box [.string pv, vt] rfl rfl rfl (fun b2 w3 eb2 sb2 fb2 cb2 => ?_)
 have zw3 := cb2.size
 refine sa rfl rfl rfl rfl ?_
 refine wl_nil (q_n (k1 _ _ ?_))
 refine sx_seq fun K4 k4 => ?_
 refine sx_seq fun K5 k5 => sx_region ?_
 refine sx_pure rfl rfl rfl (px_field rfl xfld30x1) ?_
 refine sx_pure rfl rfl rfl (px_load rfl (fb2.load1 rfl Tryd.isAgg28)) ?_
 refine sm rfl rfl rfl rfl ?_
 refine sm rfl rfl rfl rfl ?_
 have f6 := hvt0.ext cb2
 refine sx_call rfl rfl Tryd.call32 (c_l10At f6 (by omega)) (fun v7 w7 p7 => ?_)
 obtain ⟨rfl, c7⟩ := p7
 have zw7 := c7.size
 refine sx_pure rfl rfl rfl (px_ge rfl rfl) ?_
 refine wl_nil (q_n (k5 _ _ ?_))
 refine sx_condP rfl (fun h64 => ?_) (fun h64 => ?_)
 ·
  refine sx_seq fun K8 k8 => sx_region ?_
  refine sa rfl rfl rfl rfl ?_
  refine wl_nil (q_n (k8 _ _ ?_))
  refine sx_retc ?_
  refine q_r (sx_ret1 Tryd.results23 rfl ?_)
  exact ⟨(by unfold leg; rw [if_pos h64]), (cb2.t c7)⟩
 ·
  refine sx_skip ?_
  refine q_n (k4 _ _ ?_)
  refine sx_seq fun K9 k9 => ?_
  refine sx_seq fun K10 k10 => sx_region ?_
  refine sx_pure rfl rfl rfl (px_field rfl xfld30x1) ?_
  have f11 := fb2.ext c7
  refine sx_pure rfl rfl rfl (px_load rfl (f11.load1 rfl Tryd.isAgg28)) ?_
  refine sm rfl rfl rfl rfl ?_
  refine sm rfl rfl rfl rfl ?_
  have f12 := f6.ext c7
  refine sx_call rfl rfl Tryd.call32 (c_l10At f12 (by omega)) (fun v13 w13 p13 => ?_)
  obtain ⟨rfl, c13⟩ := p13
  have zw13 := c13.size
  refine sx_pure rfl rfl rfl (px_ge rfl rfl) ?_
  refine wl_nil (q_n (k10 _ _ ?_))
  refine sx_sub (Sub.cons (t := 6) rfl (.cons (t := 18) rfl (.nil))) ?_
  refine sx_condP rfl (fun h67 => ?_) (fun h67 => ?_)
  ·
   refine sx_seq fun K14 k14 => sx_region ?_
   refine sa rfl rfl rfl rfl ?_
   refine wl_nil (q_n (k14 _ _ ?_))
   refine sx_retc ?_
   refine q_r (sx_ret1 Tryd.results23 rfl ?_)
   exact ⟨(by unfold leg; rw [if_neg h64, if_pos h67]), ((cb2.t c7).t c13)⟩
  ·
   refine sx_skip ?_
   refine q_n (k9 _ _ ?_)
   refine sx_seq fun K15 k15 => sx_region ?_
   refine sa rfl rfl rfl rfl ?_
   refine wl_nil (q_n (k15 _ _ ?_))
   refine sx_retc ?_
   refine sx_ret1 Tryd.results23 rfl ?_
   exact ⟨(by unfold leg; rw [if_neg h64, if_neg h67]), ((cb2.t c7).t c13)⟩

theorem c_sRateHow {w : World} {pv : ByteArray} {vt : Value} {lvt uvt : Nat} {ts : List Rt} {vvt : List Value} {a : ByteArray} {b : ByteArray} (hvt : RtS w lvt uvt vt ts vvt) (h63 : ts.length ≤ 4611686018427387904) (hz : ∀ i, i < ts.length → (ts.getD i rt0).2.2.2.1.length ≤ 4611686018427387904) :
  Ret Tryd.prog 14 [.agg #[.string pv, vt], .string a, .string b] w fun v w' => v = .int .i64 (how pv ts a b) ∧ Chg 0 0 w w' := by
 have hvt0 := hvt.fit
 refine sx_enter Tryd.func14 rfl Tryd.ntmps14 (Nat.le_of_ble_eq_true rfl) ?_
 refine sx_seq fun K1 k1 => sx_region ?_
 refine sx_box [.string pv, vt] rfl rfl rfl (fun b2 w3 eb2 sb2 fb2 cb2 => ?_)
 have zw3 := cb2.size
 refine sa rfl rfl rfl rfl ?_
 refine wl_nil (q_n (k1 _ _ ?_))
 refine sx_seq fun K4 k4 => ?_
 refine sx_seq fun K5 k5 => sx_region ?_
 refine sx_pure rfl rfl rfl (px_load rfl (fb2.loadA (vs := [.string pv, vt]) (look_lit rfl) Tryd.isAgg30 Tryd.sizeOf30)) ?_
 have f6 := hvt0.ext cb2
 refine sx_call rfl rfl Tryd.call21 (c_sRatesOk f6 (by omega) (by first | assumption | exact fun i hi => Nat.le_trans (hzz i hi) (by omega))) (fun v7 w7 p7 => ?_)
 obtain ⟨rfl, c7⟩ := p7
 have zw7 := c7.size
 refine sx_pure rfl rfl rfl (px_notP rfl) ?_
 refine sm rfl rfl rfl rfl ?_
 refine sx_tmpP (t := 11) rfl (fun h75 => ?_) (fun h75 => ?_)
 ·
  refine sx_guardF rfl rfl rfl rfl rfl rfl ?_
  refine sx_guardF rfl rfl rfl rfl rfl rfl ?_
  refine sx_guardF rfl rfl rfl rfl rfl rfl ?_
  refine sx_pure rfl rfl rfl (px_pick rfl rfl) ?_
  refine sm rfl rfl rfl rfl ?_
  refine sx_guardF rfl rfl rfl rfl rfl rfl ?_
  refine sx_guardF rfl rfl rfl rfl rfl rfl ?_
  refine sx_guardF rfl rfl rfl rfl rfl rfl ?_
  refine sx_pure rfl rfl rfl (px_pick rfl rfl) ?_
  refine wl_nil (q_n (k5 _ _ ?_))
  refine sx_sub (Sub.cons (t := 1) rfl (.cons (t := 2) rfl (.cons (t := 3) rfl (.cons (t := 6) rfl (.cons (t := 20) rfl (.nil)))))) ?_
  refine sx_condT rfl ?_
  refine sx_seq fun K8 k8 => sx_region ?_
  refine sa rfl rfl rfl rfl ?_
  refine wl_nil (q_n (k8 _ _ ?_))
  refine sx_retc ?_
  refine q_r (sx_ret1 Tryd.results14 rfl ?_)
  exact ⟨(by unfold how; first | grind | simp_all), (cb2.t c7)⟩
 ·
  refine sx_guardT rfl rfl rfl ?_
  refine sm rfl rfl rfl rfl ?_
  refine sx_guardT rfl rfl rfl ?_
  refine sx_call rfl rfl Tryd.call22 (c_sCurKnown) (fun v9 w9 p9 => ?_)
  obtain ⟨rfl, c9⟩ := p9
  have zw9 := c9.size
  refine sx_guardT rfl rfl rfl ?_
  refine sx_pure rfl rfl rfl (px_notP rfl) ?_
  refine sx_pure rfl rfl rfl (px_pick rfl rfl) ?_
  refine sm rfl rfl rfl rfl ?_
  refine sx_tmpP (t := 16) rfl (fun h75x1 => ?_) (fun h75x1 => ?_)
  ·
   refine sx_guardF rfl rfl rfl rfl rfl rfl ?_
   refine sx_guardF rfl rfl rfl rfl rfl rfl ?_
   refine sx_guardF rfl rfl rfl rfl rfl rfl ?_
   refine sx_pure rfl rfl rfl (px_pick rfl rfl) ?_
   refine wl_nil (q_n (k5 _ _ ?_))
   refine sx_sub (Sub.cons (t := 1) rfl (.cons (t := 2) rfl (.cons (t := 3) rfl (.cons (t := 6) rfl (.cons (t := 20) rfl (.nil)))))) ?_
   refine sx_condT rfl ?_
   refine sx_seq fun K10 k10 => sx_region ?_
   refine sa rfl rfl rfl rfl ?_
   refine wl_nil (q_n (k10 _ _ ?_))
   refine sx_retc ?_
   refine q_r (sx_ret1 Tryd.results14 rfl ?_)
   exact ⟨(by unfold how; first | grind | simp_all), ((cb2.t c7).t c9)⟩
  ·
   refine sx_guardT rfl rfl rfl ?_
   refine sm rfl rfl rfl rfl ?_
   refine sx_guardT rfl rfl rfl ?_
   refine sx_call rfl rfl Tryd.call22 (c_sCurKnown) (fun v11 w11 p11 => ?_)
   obtain ⟨rfl, c11⟩ := p11
   have zw11 := c11.size
   refine sx_guardT rfl rfl rfl ?_
   refine sx_pure rfl rfl rfl (px_notP rfl) ?_
   refine sx_pure rfl rfl rfl (px_pick rfl rfl) ?_
   refine wl_nil (q_n (k5 _ _ ?_))
   refine sx_sub (Sub.cons (t := 1) rfl (.cons (t := 2) rfl (.cons (t := 3) rfl (.cons (t := 6) rfl (.cons (t := 20) rfl (.nil)))))) ?_
   refine sx_condP rfl (fun h75x2 => ?_) (fun h75x2 => ?_)
   ·
    refine sx_seq fun K12 k12 => sx_region ?_
    refine sa rfl rfl rfl rfl ?_
    refine wl_nil (q_n (k12 _ _ ?_))
    refine sx_retc ?_
    refine q_r (sx_ret1 Tryd.results14 rfl ?_)
    exact ⟨(by unfold how; first | grind | simp_all), (((cb2.t c7).t c9).t c11)⟩
   ·
    refine sx_skip ?_
    refine q_n (k4 _ _ ?_)
    refine sx_seq fun K13 k13 => ?_
    refine sx_seq fun K14 k14 => sx_region ?_
    refine sm rfl rfl rfl rfl ?_
    refine sm rfl rfl rfl rfl ?_
    refine sx_pure rfl rfl rfl (px_eqS rfl rfl) ?_
    refine wl_nil (q_n (k14 _ _ ?_))
    refine sx_condP rfl (fun h78 => ?_) (fun h78 => ?_)
    ·
     refine sx_seq fun K15 k15 => sx_region ?_
     refine sa rfl rfl rfl rfl ?_
     refine wl_nil (q_n (k15 _ _ ?_))
     refine sx_retc ?_
     refine q_r (sx_ret1 Tryd.results14 rfl ?_)
     exact ⟨(by unfold how; first | grind | simp_all), (((cb2.t c7).t c9).t c11)⟩
    ·
     refine sx_skip ?_
     refine q_n (k13 _ _ ?_)
     refine sx_seq fun K16 k16 => sx_region ?_
     have f17 := fb2.ext c7
     have f18 := f17.ext c9
     have f19 := f18.ext c11
     refine sx_pure rfl rfl rfl (px_load rfl (f19.loadA (vs := [.string pv, vt]) (look_lit rfl) Tryd.isAgg30 Tryd.sizeOf30)) ?_
     refine sm rfl rfl rfl rfl ?_
     refine sm rfl rfl rfl rfl ?_
     have f20 := f6.ext c7
     have f21 := f20.ext c9
     have f22 := f21.ext c11
     refine sx_call rfl rfl Tryd.call23 (c_l10Leg f22 (by omega)) (fun v23 w23 p23 => ?_)
     obtain ⟨rfl, c23⟩ := p23
     have zw23 := c23.size
     refine sa rfl rfl rfl rfl ?_
     refine wl_nil (q_n (k16 _ _ ?_))
     refine sx_seq fun K24 k24 => ?_
     refine sx_seq fun K25 k25 => sx_region ?_
     refine sm rfl rfl rfl rfl ?_
     refine sx_pure rfl rfl rfl (px_ne rfl rfl) ?_
     refine wl_nil (q_n (k25 _ _ ?_))
     refine sx_sub (Sub.cons (t := 1) rfl (.cons (t := 2) rfl (.cons (t := 3) rfl (.cons (t := 6) rfl (.cons (t := 7) rfl (.cons (t := 29) rfl (.nil))))))) ?_
     refine sx_condP rfl (fun h82 => ?_) (fun h82 => ?_)
     ·
      refine sx_seq fun K26 k26 => sx_region ?_
      refine sm rfl rfl rfl rfl ?_
      refine sa rfl rfl rfl rfl ?_
      refine wl_nil (q_n (k26 _ _ ?_))
      refine sx_retc ?_
      refine q_r (sx_ret1 Tryd.results14 rfl ?_)
      exact ⟨(by unfold how; first | grind | simp_all), ((((cb2.t c7).t c9).t c11).t c23)⟩
     ·
      refine sx_skip ?_
      refine q_n (k24 _ _ ?_)
      refine sx_seq fun K27 k27 => ?_
      refine sx_seq fun K28 k28 => sx_region ?_
      refine sm rfl rfl rfl rfl ?_
      refine sx_pure rfl rfl rfl (px_field rfl xfld30x0) ?_
      have f29 := f19.ext c23
      refine sx_pure rfl rfl rfl (px_load rfl (f29.load1 rfl Tryd.isAgg9)) ?_
      refine sx_pure rfl rfl rfl (px_neS rfl rfl) ?_
      refine sm rfl rfl rfl rfl ?_
      refine sx_tmpP (t := 35) rfl (fun h85 => ?_) (fun h85 => ?_)
      ·
       refine sx_guardT rfl rfl rfl ?_
       refine sm rfl rfl rfl rfl ?_
       refine sx_guardT rfl rfl rfl ?_
       refine sx_pure rfl rfl rfl (px_field rfl xfld30x0) ?_
       refine sx_guardT rfl rfl rfl ?_
       refine sx_pure rfl rfl rfl (px_load rfl (f29.load1 rfl Tryd.isAgg9)) ?_
       refine sx_guardT rfl rfl rfl ?_
       refine sx_pure rfl rfl rfl (px_neS rfl rfl) ?_
       refine sx_pure rfl rfl rfl (px_pick rfl rfl) ?_
       refine sm rfl rfl rfl rfl ?_
       refine sx_tmpP (t := 41) rfl (fun h85x1 => ?_) (fun h85x1 => ?_)
       ·
        refine sx_guardT rfl rfl rfl ?_
        refine sx_pure rfl rfl rfl (px_load rfl (f29.loadA (vs := [.string pv, vt]) (look_lit rfl) Tryd.isAgg30 Tryd.sizeOf30)) ?_
        refine sx_guardT rfl rfl rfl ?_
        refine sm rfl rfl rfl rfl ?_
        refine sx_guardT rfl rfl rfl ?_
        refine sx_pure rfl rfl rfl (px_field rfl xfld30x0) ?_
        refine sx_guardT rfl rfl rfl ?_
        refine sx_pure rfl rfl rfl (px_load rfl (f29.load1 rfl Tryd.isAgg9)) ?_
        refine sx_guardT rfl rfl rfl ?_
        have f30 := f22.ext c23
        refine sx_call rfl rfl Tryd.call23 (c_l10Leg f30 (by omega)) (fun v31 w31 p31 => ?_)
        obtain ⟨rfl, c31⟩ := p31
        have zw31 := c31.size
        refine sx_guardT rfl rfl rfl ?_
        refine sx_pure rfl rfl rfl (px_ne rfl rfl) ?_
        refine sx_pure rfl rfl rfl (px_pick rfl rfl) ?_
        refine sm rfl rfl rfl rfl ?_
        refine sx_tmpP (t := 49) rfl (fun h85x2 => ?_) (fun h85x2 => ?_)
        ·
         refine sx_guardT rfl rfl rfl ?_
         have f32 := f29.ext c31
         refine sx_pure rfl rfl rfl (px_load rfl (f32.loadA (vs := [.string pv, vt]) (look_lit rfl) Tryd.isAgg30 Tryd.sizeOf30)) ?_
         refine sx_guardT rfl rfl rfl ?_
         refine sx_pure rfl rfl rfl (px_field rfl xfld30x0) ?_
         refine sx_guardT rfl rfl rfl ?_
         refine sx_pure rfl rfl rfl (px_load rfl (f32.load1 rfl Tryd.isAgg9)) ?_
         refine sx_guardT rfl rfl rfl ?_
         refine sm rfl rfl rfl rfl ?_
         refine sx_guardT rfl rfl rfl ?_
         have f33 := f30.ext c31
         refine sx_call rfl rfl Tryd.call23 (c_l10Leg f33 (by omega)) (fun v34 w34 p34 => ?_)
         obtain ⟨rfl, c34⟩ := p34
         have zw34 := c34.size
         refine sx_guardT rfl rfl rfl ?_
         refine sx_pure rfl rfl rfl (px_ne rfl rfl) ?_
         refine sx_pure rfl rfl rfl (px_pick rfl rfl) ?_
         refine wl_nil (q_n (k28 _ _ ?_))
         refine sx_sub (Sub.cons (t := 6) rfl (.cons (t := 56) rfl (.nil))) ?_
         refine sx_condP rfl (fun h85x3 => ?_) (fun h85x3 => ?_)
         ·
          refine sx_seq fun K35 k35 => sx_region ?_
          refine sa rfl rfl rfl rfl ?_
          refine wl_nil (q_n (k35 _ _ ?_))
          refine sx_retc ?_
          refine q_r (sx_ret1 Tryd.results14 rfl ?_)
          exact ⟨(by unfold how; first | grind | simp_all), ((((((cb2.t c7).t c9).t c11).t c23).t c31).t c34)⟩
         ·
          refine sx_skip ?_
          refine q_n (k27 _ _ ?_)
          refine sx_seq fun K36 k36 => sx_region ?_
          refine sa rfl rfl rfl rfl ?_
          refine wl_nil (q_n (k36 _ _ ?_))
          refine sx_retc ?_
          refine sx_ret1 Tryd.results14 rfl ?_
          exact ⟨(by unfold how; first | grind | simp_all), ((((((cb2.t c7).t c9).t c11).t c23).t c31).t c34)⟩
        ·
         refine sx_guardF rfl rfl rfl rfl rfl rfl ?_
         refine sx_guardF rfl rfl rfl rfl rfl rfl ?_
         refine sx_guardF rfl rfl rfl rfl rfl rfl ?_
         refine sx_guardF rfl rfl rfl rfl rfl rfl ?_
         refine sx_guardF rfl rfl rfl rfl rfl rfl ?_
         refine sx_guardF rfl rfl rfl rfl rfl rfl ?_
         refine sx_pure rfl rfl rfl (px_pick rfl rfl) ?_
         refine wl_nil (q_n (k28 _ _ ?_))
         refine sx_sub (Sub.cons (t := 6) rfl (.cons (t := 56) rfl (.nil))) ?_
         refine sx_condF rfl ?_
         refine sx_skip ?_
         refine q_n (k27 _ _ ?_)
         refine sx_seq fun K37 k37 => sx_region ?_
         refine sa rfl rfl rfl rfl ?_
         refine wl_nil (q_n (k37 _ _ ?_))
         refine sx_retc ?_
         refine sx_ret1 Tryd.results14 rfl ?_
         exact ⟨(by unfold how; first | grind | simp_all), (((((cb2.t c7).t c9).t c11).t c23).t c31)⟩
       ·
        refine sx_guardF rfl rfl rfl rfl rfl rfl ?_
        refine sx_guardF rfl rfl rfl rfl rfl rfl ?_
        refine sx_guardF rfl rfl rfl rfl rfl rfl ?_
        refine sx_guardF rfl rfl rfl rfl rfl rfl ?_
        refine sx_guardF rfl rfl rfl rfl rfl rfl ?_
        refine sx_guardF rfl rfl rfl rfl rfl rfl ?_
        refine sx_pure rfl rfl rfl (px_pick rfl rfl) ?_
        refine sm rfl rfl rfl rfl ?_
        refine sx_guardF rfl rfl rfl rfl rfl rfl ?_
        refine sx_guardF rfl rfl rfl rfl rfl rfl ?_
        refine sx_guardF rfl rfl rfl rfl rfl rfl ?_
        refine sx_guardF rfl rfl rfl rfl rfl rfl ?_
        refine sx_guardF rfl rfl rfl rfl rfl rfl ?_
        refine sx_guardF rfl rfl rfl rfl rfl rfl ?_
        refine sx_pure rfl rfl rfl (px_pick rfl rfl) ?_
        refine wl_nil (q_n (k28 _ _ ?_))
        refine sx_sub (Sub.cons (t := 6) rfl (.cons (t := 56) rfl (.nil))) ?_
        refine sx_condF rfl ?_
        refine sx_skip ?_
        refine q_n (k27 _ _ ?_)
        refine sx_seq fun K38 k38 => sx_region ?_
        refine sa rfl rfl rfl rfl ?_
        refine wl_nil (q_n (k38 _ _ ?_))
        refine sx_retc ?_
        refine sx_ret1 Tryd.results14 rfl ?_
        exact ⟨(by unfold how; first | grind | simp_all), ((((cb2.t c7).t c9).t c11).t c23)⟩
      ·
       refine sx_guardF rfl rfl rfl rfl rfl rfl ?_
       refine sx_guardF rfl rfl rfl rfl rfl rfl ?_
       refine sx_guardF rfl rfl rfl rfl rfl rfl ?_
       refine sx_guardF rfl rfl rfl rfl rfl rfl ?_
       refine sx_pure rfl rfl rfl (px_pick rfl rfl) ?_
       refine sm rfl rfl rfl rfl ?_
       refine sx_guardF rfl rfl rfl rfl rfl rfl ?_
       refine sx_guardF rfl rfl rfl rfl rfl rfl ?_
       refine sx_guardF rfl rfl rfl rfl rfl rfl ?_
       refine sx_guardF rfl rfl rfl rfl rfl rfl ?_
       refine sx_guardF rfl rfl rfl rfl rfl rfl ?_
       refine sx_guardF rfl rfl rfl rfl rfl rfl ?_
       refine sx_pure rfl rfl rfl (px_pick rfl rfl) ?_
       refine sm rfl rfl rfl rfl ?_
       refine sx_guardF rfl rfl rfl rfl rfl rfl ?_
       refine sx_guardF rfl rfl rfl rfl rfl rfl ?_
       refine sx_guardF rfl rfl rfl rfl rfl rfl ?_
       refine sx_guardF rfl rfl rfl rfl rfl rfl ?_
       refine sx_guardF rfl rfl rfl rfl rfl rfl ?_
       refine sx_guardF rfl rfl rfl rfl rfl rfl ?_
       refine sx_pure rfl rfl rfl (px_pick rfl rfl) ?_
       refine wl_nil (q_n (k28 _ _ ?_))
       refine sx_sub (Sub.cons (t := 6) rfl (.cons (t := 56) rfl (.nil))) ?_
       refine sx_condF rfl ?_
       refine sx_skip ?_
       refine q_n (k27 _ _ ?_)
       refine sx_seq fun K39 k39 => sx_region ?_
       refine sa rfl rfl rfl rfl ?_
       refine wl_nil (q_n (k39 _ _ ?_))
       refine sx_retc ?_
       refine sx_ret1 Tryd.results14 rfl ?_
       exact ⟨(by unfold how; first | grind | simp_all), ((((cb2.t c7).t c9).t c11).t c23)⟩

theorem c_sRatePath {w : World} {pv : ByteArray} {vt : Value} {lvt uvt : Nat} {ts : List Rt} {vvt : List Value} {a : ByteArray} {b : ByteArray} (hvt : RtS w lvt uvt vt ts vvt) (h63 : ts.length ≤ 4611686018427387904) (hz : ∀ i, i < ts.length → (ts.getD i rt0).2.2.2.1.length ≤ 4611686018427387904) :
  Ret Tryd.prog 5 [.agg #[.string pv, vt], .string a, .string b] w fun v w' => ∃ s, v = s ∧ OwnS w' w.heap.size w'.heap.size s strT (path pv ts a b) ∧ ((path pv ts a b).length ≤ 3) ∧ Chg 0 0 w w' := by
 have hvt0 := hvt.fit
 refine sx_enter Tryd.func5 rfl Tryd.ntmps5 (Nat.le_of_ble_eq_true rfl) ?_
 refine sx_seq fun K1 k1 => sx_region ?_
 refine sx_box [.string pv, vt] rfl rfl rfl (fun b2 w3 eb2 sb2 fb2 cb2 => ?_)
 have zw3 := cb2.size
 refine sa rfl rfl rfl rfl ?_
 refine wl_nil (q_n (k1 _ _ ?_))
 refine sx_seq fun K4 k4 => ?_
 refine sx_seq fun K5 k5 => sx_region ?_
 refine sx_pure rfl rfl rfl (px_load rfl (fb2.loadA (vs := [.string pv, vt]) (look_lit rfl) Tryd.isAgg30 Tryd.sizeOf30)) ?_
 refine sm rfl rfl rfl rfl ?_
 refine sm rfl rfl rfl rfl ?_
 have f6 := hvt0.ext cb2
 refine sx_call rfl rfl Tryd.call14 (c_sRateHow f6 (by omega) (by first | assumption | exact fun i hi => Nat.le_trans (hzz i hi) (by omega))) (fun v7 w7 p7 => ?_)
 obtain ⟨rfl, c7⟩ := p7
 have zw7 := c7.size
 refine wl_nil (q_n (k5 _ _ ?_))
 refine sx_block ?_
 refine sx_seq fun K8 k8 => sx_region ?_
 refine sx_pure rfl rfl rfl (px_eq rfl rfl) ?_
 refine sa rfl rfl rfl rfl ?_
 refine wl_nil (q_n (k8 _ _ ?_))
 refine sx_condP rfl (fun h118 => ?_) (fun h118 => ?_)
 ·
  refine sx_seq fun K9 k9 => sx_region ?_
  refine sm rfl rfl rfl rfl ?_
  refine sx_lit1 rfl xelt26 rfl rfl (fun s10 ws10 ss10 fs10 cs10 => ?_)
  have ns10 := Own.norm (f := Value.string) (zs := [a]) fs10
  have zws10 := cs10.size
  refine sa rfl rfl rfl rfl ?_
  refine wl_nil (q_n (k9 _ _ ?_))
  refine sx_retc ?_
  refine q_br (q_r (sx_ret1 Tryd.results5 rfl ?_))
  have hrl := path_len (pv := pv) (ts := ts) (a := a) (b := b)
  rw [path_1 h118] at hrl ⊢
  exact ⟨_, rfl, (Own.mono ns10 (by omega) (by omega)), hrl, ((cb2.t c7).t cs10)⟩
 ·
  refine sx_seq fun K11 k11 => ?_
  refine sx_seq fun K12 k12 => sx_region ?_
  refine sx_pure rfl rfl rfl (px_eq rfl rfl) ?_
  refine sa rfl rfl rfl rfl ?_
  refine wl_nil (q_n (k12 _ _ ?_))
  refine sx_condP rfl (fun h120 => ?_) (fun h120 => ?_)
  ·
   refine sx_skip ?_
   refine q_n (k11 _ _ ?_)
   refine sx_condP rfl (fun h120x1 => ?_) (fun h120x1 => ?_)
   ·
    refine sx_seq fun K13 k13 => sx_region ?_
    refine sm rfl rfl rfl rfl ?_
    refine sm rfl rfl rfl rfl ?_
    refine sx_lit2 rfl xelt26 rfl rfl rfl rfl (fun s14 ws14 ss14 fs14 cs14 => ?_)
    have ns14 := Own.norm (f := Value.string) (zs := [a, b]) fs14
    have zws14 := cs14.size
    refine sa rfl rfl rfl rfl ?_
    refine wl_nil (q_n (k13 _ _ ?_))
    refine sx_sub (Sub.cons (t := 6) rfl (.nil)) ?_
    refine sx_retc ?_
    refine q_br (q_r (sx_ret1 Tryd.results5 rfl ?_))
    have hrl := path_len (pv := pv) (ts := ts) (a := a) (b := b)
    rw [path_2 (by omega)] at hrl ⊢
    exact ⟨_, rfl, (Own.mono ns14 (by omega) (by omega)), hrl, ((cb2.t c7).t cs14)⟩
   ·
    refine sx_seq fun K15 k15 => sx_region ?_
    refine sx_pure rfl rfl rfl (px_eq rfl rfl) ?_
    refine sa rfl rfl rfl rfl ?_
    refine wl_nil (q_n (k15 _ _ ?_))
    refine sx_sub (Sub.cons (t := 1) rfl (.cons (t := 2) rfl (.cons (t := 3) rfl (.cons (t := 6) rfl (.cons (t := 21) rfl (.nil)))))) ?_
    refine sx_condP rfl (fun h122 => ?_) (fun h122 => ?_)
    ·
     refine sx_seq fun K16 k16 => sx_region ?_
     refine sm rfl rfl rfl rfl ?_
     refine sx_pure rfl rfl rfl (px_field rfl xfld30x0) ?_
     have f17 := fb2.ext c7
     refine sx_pure rfl rfl rfl (px_load rfl (f17.load1 rfl Tryd.isAgg9)) ?_
     refine sm rfl rfl rfl rfl ?_
     refine sx_lit3 rfl xelt26 rfl rfl rfl rfl rfl rfl (fun s18 ws18 ss18 fs18 cs18 => ?_)
     have ns18 := Own.norm (f := Value.string) (zs := [a, pv, b]) fs18
     have zws18 := cs18.size
     refine sa rfl rfl rfl rfl ?_
     refine wl_nil (q_n (k16 _ _ ?_))
     refine sx_retc ?_
     refine q_br (q_r (sx_ret1 Tryd.results5 rfl ?_))
     have hrl := path_len (pv := pv) (ts := ts) (a := a) (b := b)
     rw [path_4 h122] at hrl ⊢
     exact ⟨_, rfl, (Own.mono ns18 (by omega) (by omega)), hrl, ((cb2.t c7).t cs18)⟩
    ·
     refine sx_skip ?_
     refine q_bn (q_n (k4 _ _ ?_))
     refine sx_seq fun K19 k19 => sx_region ?_
     refine sx_lit0 rfl xelt26 (fun s20 ws20 ss20 fs20 cs20 => ?_)
     have zws20 := cs20.size
     refine sa rfl rfl rfl rfl ?_
     refine wl_nil (q_n (k19 _ _ ?_))
     refine sx_retc ?_
     refine sx_ret1 Tryd.results5 rfl ?_
     have hrl := path_len (pv := pv) (ts := ts) (a := a) (b := b)
     rw [path_0 h118 (by omega) h122] at hrl ⊢
     exact ⟨_, rfl, (Own.mono fs20 (by omega) (by omega)), hrl, ((cb2.t c7).t cs20)⟩
  ·
   refine sx_region ?_
   refine sx_pure rfl rfl rfl (px_eq rfl rfl) ?_
   refine sa rfl rfl rfl rfl ?_
   refine wl_nil (q_n (k11 _ _ ?_))
   refine sx_condP rfl (fun h120x1 => ?_) (fun h120x1 => ?_)
   ·
    refine sx_seq fun K21 k21 => sx_region ?_
    refine sm rfl rfl rfl rfl ?_
    refine sm rfl rfl rfl rfl ?_
    refine sx_lit2 rfl xelt26 rfl rfl rfl rfl (fun s22 ws22 ss22 fs22 cs22 => ?_)
    have ns22 := Own.norm (f := Value.string) (zs := [a, b]) fs22
    have zws22 := cs22.size
    refine sa rfl rfl rfl rfl ?_
    refine wl_nil (q_n (k21 _ _ ?_))
    refine sx_sub (Sub.cons (t := 6) rfl (.nil)) ?_
    refine sx_retc ?_
    refine q_br (q_r (sx_ret1 Tryd.results5 rfl ?_))
    have hrl := path_len (pv := pv) (ts := ts) (a := a) (b := b)
    rw [path_2 (by omega)] at hrl ⊢
    exact ⟨_, rfl, (Own.mono ns22 (by omega) (by omega)), hrl, ((cb2.t c7).t cs22)⟩
   ·
    refine sx_seq fun K23 k23 => sx_region ?_
    refine sx_pure rfl rfl rfl (px_eq rfl rfl) ?_
    refine sa rfl rfl rfl rfl ?_
    refine wl_nil (q_n (k23 _ _ ?_))
    refine sx_sub (Sub.cons (t := 1) rfl (.cons (t := 2) rfl (.cons (t := 3) rfl (.cons (t := 6) rfl (.cons (t := 21) rfl (.nil)))))) ?_
    refine sx_condP rfl (fun h122 => ?_) (fun h122 => ?_)
    ·
     refine sx_seq fun K24 k24 => sx_region ?_
     refine sm rfl rfl rfl rfl ?_
     refine sx_pure rfl rfl rfl (px_field rfl xfld30x0) ?_
     have f25 := fb2.ext c7
     refine sx_pure rfl rfl rfl (px_load rfl (f25.load1 rfl Tryd.isAgg9)) ?_
     refine sm rfl rfl rfl rfl ?_
     refine sx_lit3 rfl xelt26 rfl rfl rfl rfl rfl rfl (fun s26 ws26 ss26 fs26 cs26 => ?_)
     have ns26 := Own.norm (f := Value.string) (zs := [a, pv, b]) fs26
     have zws26 := cs26.size
     refine sa rfl rfl rfl rfl ?_
     refine wl_nil (q_n (k24 _ _ ?_))
     refine sx_retc ?_
     refine q_br (q_r (sx_ret1 Tryd.results5 rfl ?_))
     have hrl := path_len (pv := pv) (ts := ts) (a := a) (b := b)
     rw [path_4 h122] at hrl ⊢
     exact ⟨_, rfl, (Own.mono ns26 (by omega) (by omega)), hrl, ((cb2.t c7).t cs26)⟩
    ·
     refine sx_skip ?_
     refine q_bn (q_n (k4 _ _ ?_))
     refine sx_seq fun K27 k27 => sx_region ?_
     refine sx_lit0 rfl xelt26 (fun s28 ws28 ss28 fs28 cs28 => ?_)
     have zws28 := cs28.size
     refine sa rfl rfl rfl rfl ?_
     refine wl_nil (q_n (k27 _ _ ?_))
     refine sx_retc ?_
     refine sx_ret1 Tryd.results5 rfl ?_
     have hrl := path_len (pv := pv) (ts := ts) (a := a) (b := b)
     rw [path_0 h118 (by omega) h122] at hrl ⊢
     exact ⟨_, rfl, (Own.mono fs28 (by omega) (by omega)), hrl, ((cb2.t c7).t cs28)⟩

theorem c_currencyOf {w : World} {s : ByteArray} (hG0 : Glob w) :
  Ret Tryd.prog 36 [.string s] w fun v w' => v = .tuple #[.agg #[.string ((curOf s).code), .string ((curOf s).number), .int .i64 ((curOf s).places), .int .i64 ((curOf s).cash)], .bool (decide (Known s))] ∧ Chg 0 0 w w' := by
 refine sx_enter Tryd.func36 rfl Tryd.ntmps36 (Nat.le_of_ble_eq_true rfl) ?_
 refine sx_seq fun K1 k1 => sx_region ?_
 refine sx_alloc [.string (⟨#[]⟩), .string (⟨#[]⟩), .int .i64 0, .int .i64 0] rfl Tryd.zeroValue74 rfl (fun b2 w3 eb2 sb2 fb2 cb2 => ?_)
 have zw3 := cb2.size
 refine sa rfl rfl rfl rfl ?_
 refine wl_nil (q_n (k1 _ _ ?_))
 refine sx_seq fun K4 k4 => ?_
 refine sx_seq fun K5 k5 => sx_region ?_
 have f6 := hG0.ext cb2
 refine sx_pure rfl rfl rfl (px_load rfl (Glob.load f6 Tryd.isAgg86 Tryd.sizeOf86)) ?_
 refine sm rfl rfl rfl rfl ?_
 refine wl_nil (q_n (k5 _ _ ?_))
 refine sx_block ?_
 refine sx_loop (fun mm aa w' => ∃ (k : Nat), Agr 17 [(0, .string s), (2, .pointer (some ⟨b2, 0, none⟩)), (6, .agg (crCells tabI).toArray), (7, .int .i64 ↑k)] aa ∧ Chg 0 0 w3 w' ∧ (mm = 20 - k) ∧ (k ≤ 20) ∧ (∀ i, i < k → ¬ (tabI.getD i cr0).code = s)) (20) (fun a ha => ⟨0, ha.sub (Sub.cons (t := 0) rfl (.cons (t := 2) rfl (.cons (t := 6) rfl (.cons (t := 7) (look_int (t := 7) rfl (by first | omega | simp)) (.nil))))), Chg.refl _ _ _, rfl, by omega, fun i h => by omega⟩) ?_
 rintro mm aa wl7 ⟨k, hAwl7, cwl7, hm, hk, hn⟩
 refine (show cw Tryd.prog 17 _ _ _ wl7 from ?_) aa hAwl7
 clear hAwl7
 have zwl7 := cwl7.size
 refine sx_seq fun K8 k8 => sx_region ?_
 refine sx_pure rfl rfl rfl (px_lt rfl rfl) ?_
 refine wl_nil (q_n (k8 _ _ ?_))
 refine sx_seq fun K9 k9 => ?_
 refine sx_condP rfl (fun h39 => ?_) (fun h39 => ?_)
 ·
  refine sx_skip ?_
  refine q_n (k9 _ _ ?_)
  refine sx_seq fun K10 k10 => ?_
  refine sx_block ?_
  refine sx_seq fun K11 k11 => sx_region ?_
  refine sx_pure rfl rfl rfl (px_indexCr (l := tabI) (j := k) rfl rfl (by omega) Tryd.underlying86 rfl Tryd.sizeOf74 Tryd.isAgg74 (by rw [show tabI.length = 20 from rfl]; omega)) ?_
  refine sx_alloc [.string (⟨#[]⟩), .string (⟨#[]⟩), .int .i64 0, .int .i64 0] rfl Tryd.zeroValue74 rfl (fun b12 w13 eb12 sb12 fb12 cb12 => ?_)
  have zw13 := cb12.size
  refine sx_store (vs := [.string ((tabI.getD k cr0).code), .string ((tabI.getD k cr0).number), .int .i64 ((tabI.getD k cr0).places), .int .i64 ((tabI.getD k cr0).cash)]) rfl rfl fb12 rfl Tryd.sizeOf74 (Nat.le_of_ble_eq_true rfl) (one_cons rfl (one_cons rfl (one_cons rfl (one_cons rfl one_nil)))) (fun w14 sw14 fw14 cw14 => ?_)
  have zw14 := cw14.size
  have gw14 : Blk w14 b12 [.string ((tabI.getD k cr0).code), .string ((tabI.getD k cr0).number), .int .i64 ((tabI.getD k cr0).places), .int .i64 ((tabI.getD k cr0).cash)] 74 := fw14
  refine wl_nil (q_n (k11 _ _ ?_))
  refine sx_seq fun K15 k15 => sx_region ?_
  refine sx_pure rfl rfl rfl (px_field rfl xfld74x0) ?_
  refine sx_pure rfl rfl rfl (px_load rfl (gw14.load1 rfl Tryd.isAgg9)) ?_
  refine sm rfl rfl rfl rfl ?_
  refine sx_pure rfl rfl rfl (px_eqS rfl rfl) ?_
  refine wl_nil (q_n (k15 _ _ ?_))
  refine sx_condP rfl (fun h40 => ?_) (fun h40 => ?_)
  ·
   refine sx_seq fun K16 k16 => sx_region ?_
   refine sx_pure rfl rfl rfl (px_load rfl (gw14.loadA (vs := [.string ((tabI.getD k cr0).code), .string ((tabI.getD k cr0).number), .int .i64 ((tabI.getD k cr0).places), .int .i64 ((tabI.getD k cr0).cash)]) (look_lit rfl) Tryd.isAgg74 Tryd.sizeOf74)) ?_
   have f18 := fb2.ext cwl7
   have f19 := f18.ext cb12
   have f20 := f19.chg cw14 (by omega)
   refine sx_store (vs := [.string ((tabI.getD k cr0).code), .string ((tabI.getD k cr0).number), .int .i64 ((tabI.getD k cr0).places), .int .i64 ((tabI.getD k cr0).cash)]) rfl rfl f20 rfl Tryd.sizeOf74 (Nat.le_of_ble_eq_true rfl) (one_cons rfl (one_cons rfl (one_cons rfl (one_cons rfl one_nil)))) (fun w17 sw17 fw17 cw17 => ?_)
   have zw17 := cw17.size
   have gw17 : Blk w17 b2 [.string ((tabI.getD k cr0).code), .string ((tabI.getD k cr0).number), .int .i64 ((tabI.getD k cr0).places), .int .i64 ((tabI.getD k cr0).cash)] 74 := fw17
   refine sa rfl rfl rfl rfl ?_
   refine wl_nil (q_n (k16 _ _ ?_))
   refine sx_retc ?_
   refine q_br (q_r (q_r (q_br (q_r (sx_ret2 Tryd.results36 ⟨_, rfl, gw17.loadA (vs := [.string ((tabI.getD k cr0).code), .string ((tabI.getD k cr0).number), .int .i64 ((tabI.getD k cr0).places), .int .i64 ((tabI.getD k cr0).cash)]) (look_lit rfl) Tryd.isAgg74 Tryd.sizeOf74⟩ rfl ?_)))))
   have e := curOf_some (by rw [show tabI.length = 20 from rfl]; omega) hn h40
   have e2 := known_some (by rw [show tabI.length = 20 from rfl]; omega) hn h40
   rw [e]
   have q21 := Chg.step (l := 0) (h := 0) (Chg.zero (l := 0) (h := 0) ((cb2.t cwl7).t cb12)) cw14 (by omega)
   have q22 := Chg.step (l := 0) (h := 0) q21 cw17 (by omega)
   exact ⟨by simp [e2], q22⟩
  ·
   refine sx_skip ?_
   refine q_bn (q_n (k10 _ _ ?_))
   refine sx_region ?_
   refine sx_pure rfl rfl rfl (px_add rfl rfl (by omega)) ?_
   refine sm rfl rfl rfl rfl ?_
   refine wl_nil ?_
   have q23 := Chg.step (l := 0) (h := 0) (Chg.zero (l := 0) (h := 0) (cwl7.t cb12)) cw14 (by omega)
   exact fun a ha => ⟨_, by omega, (k + 1), ha.sub (Sub.cons (t := 0) rfl (.cons (t := 2) rfl (.cons (t := 6) rfl (.cons (t := 7) (look_int (t := 7) rfl (by first | omega | simp)) (.nil))))), q23, rfl, by omega, upto_succ hn h40⟩
 ·
  refine sx_exit ?_
  refine q_e (q_e (q_bx (q_n (k4 _ _ ?_))))
  refine sx_seq fun K24 k24 => sx_region ?_
  refine sx_pure rfl rfl rfl (px_build rfl (xbld74x  _)) ?_
  have f26 := fb2.ext cwl7
  refine sx_store (vs := [.string (⟨#[]⟩), .string (⟨#[]⟩), .int .i64 0, .int .i64 0]) rfl rfl f26 rfl Tryd.sizeOf74 (Nat.le_of_ble_eq_true rfl) (one_cons rfl (one_cons rfl (one_cons rfl (one_cons rfl one_nil)))) (fun w25 sw25 fw25 cw25 => ?_)
  have zw25 := cw25.size
  have gw25 : Blk w25 b2 [.string (⟨#[]⟩), .string (⟨#[]⟩), .int .i64 0, .int .i64 0] 74 := fw25
  refine sa rfl rfl rfl rfl ?_
  refine wl_nil (q_n (k24 _ _ ?_))
  refine sx_retc ?_
  refine sx_ret2 Tryd.results36 ⟨_, rfl, gw25.loadA (vs := [.string (⟨#[]⟩), .string (⟨#[]⟩), .int .i64 0, .int .i64 0]) (look_lit rfl) Tryd.isAgg74 Tryd.sizeOf74⟩ rfl ?_
  have e := curOf_none (s := s) (fun i hi => hn i (by rw [show tabI.length = 20 from rfl] at hi; omega))
  have e2 := known_none (s := s) (fun i hi => hn i (by rw [show tabI.length = 20 from rfl] at hi; omega))
  rw [e]
  have q27 := Chg.step (l := 0) (h := 0) (Chg.zero (l := 0) (h := 0) (cb2.t cwl7)) cw25 (by omega)
  exact ⟨by simp [e2, cr0], q27⟩

theorem c_iCurKnown {w : World} {s : ByteArray} (hG0 : Glob w) :
  Ret Tryd.prog 26 [.string s] w fun v w' => v = .bool (decide (Known s)) ∧ Chg 0 0 w w' := by
 refine sx_enter Tryd.func26 rfl Tryd.ntmps26 (Nat.le_of_ble_eq_true rfl) ?_
 refine sx_seq fun K1 k1 => sx_region ?_
 refine sa rfl rfl rfl rfl ?_
 refine wl_nil (q_n (k1 _ _ ?_))
 refine sx_seq fun K2 k2 => sx_region ?_
 refine sm rfl rfl rfl rfl ?_
 refine sx_call rfl rfl Tryd.call36 (c_currencyOf hG0) (fun v3 w3 p3 => ?_)
 obtain ⟨rfl, c3⟩ := p3
 have zw3 := c3.size
 refine sm rfl rfl rfl rfl ?_
 refine sx_pure rfl rfl rfl (px_extract (vs := [.agg #[.string ((curOf s).code), .string ((curOf s).number), .int .i64 ((curOf s).places), .int .i64 ((curOf s).cash)], .bool (decide (Known s))]) rfl rfl) ?_
 refine sx_pure rfl rfl rfl (px_extract (vs := [.agg #[.string ((curOf s).code), .string ((curOf s).number), .int .i64 ((curOf s).places), .int .i64 ((curOf s).cash)], .bool (decide (Known s))]) rfl rfl) ?_
 refine sx_alloc [.string (⟨#[]⟩), .string (⟨#[]⟩), .int .i64 0, .int .i64 0] rfl Tryd.zeroValue74 rfl (fun b4 w5 eb4 sb4 fb4 cb4 => ?_)
 have zw5 := cb4.size
 refine sx_store (vs := [.string ((curOf s).code), .string ((curOf s).number), .int .i64 ((curOf s).places), .int .i64 ((curOf s).cash)]) rfl rfl fb4 rfl Tryd.sizeOf74 (Nat.le_of_ble_eq_true rfl) (one_cons rfl (one_cons rfl (one_cons rfl (one_cons rfl one_nil)))) (fun w6 sw6 fw6 cw6 => ?_)
 have zw6 := cw6.size
 have gw6 : Blk w6 b4 [.string ((curOf s).code), .string ((curOf s).number), .int .i64 ((curOf s).places), .int .i64 ((curOf s).cash)] 74 := fw6
 refine sa rfl rfl rfl rfl ?_
 refine wl_nil (q_n (k2 _ _ ?_))
 refine sx_seq fun K7 k7 => sx_region ?_
 refine sm rfl rfl rfl rfl ?_
 refine sa rfl rfl rfl rfl ?_
 refine wl_nil (q_n (k7 _ _ ?_))
 refine sx_retc ?_
 refine sx_ret1 Tryd.results26 rfl ?_
 have q8 := Chg.step (l := 0) (h := 0) (Chg.zero (l := 0) (h := 0) (c3.t cb4)) cw6 (by omega)
 exact ⟨rfl, q8⟩

theorem c_iNatOk {w : World} {va : Value} {lva uva : Nat} {zs : List Int} (hva : Sl w lva uva va (zs)) (h63 : zs.length ≤ 4611686018427387904) :
  Ret Tryd.prog 57 [va] w fun v w' => v = .bool (decide (NOk zs)) ∧ Chg 0 0 w w' := by
 have hva0 := hva.fit
 refine sx_enter Tryd.func57 rfl Tryd.ntmps57 (Nat.le_of_ble_eq_true rfl) ?_
 refine sx_seq fun K1 k1 => sx_region ?_
 refine sa rfl rfl rfl rfl ?_
 refine wl_nil (q_n (k1 _ _ ?_))
 refine sx_seq fun K2 k2 => ?_
 refine sx_seq fun K3 k3 => sx_region ?_
 refine sm rfl rfl rfl rfl ?_
 refine sx_pure rfl rfl rfl (px_len rfl Tryd.underlying44 hva0) ?_
 refine sx_pure rfl rfl rfl (px_gt rfl rfl) ?_
 refine sm rfl rfl rfl rfl ?_
 refine sx_tmpP (t := 8) rfl (fun h13 => ?_) (fun h13 => ?_)
 ·
  refine sx_guardF rfl rfl rfl rfl rfl rfl ?_
  refine sx_guardF rfl rfl rfl rfl rfl rfl ?_
  refine sx_guardF rfl rfl rfl rfl rfl rfl ?_
  refine sx_guardF rfl rfl rfl rfl rfl rfl ?_
  refine sx_guardFU rfl rfl rfl rfl rfl ?_
  refine sx_guardFU rfl rfl rfl rfl rfl ?_
  refine sx_guardFU rfl rfl rfl rfl rfl ?_
  refine sx_guardFU rfl rfl rfl rfl rfl ?_
  refine sx_guardFU rfl rfl rfl rfl rfl ?_
  refine sx_guardFU rfl rfl rfl rfl rfl ?_
  refine sx_guardFU rfl rfl rfl rfl rfl ?_
  refine sx_guardF rfl rfl rfl rfl rfl rfl ?_
  refine sx_pure rfl rfl rfl (px_pick rfl rfl) ?_
  refine wl_nil (q_n (k3 _ _ ?_))
  refine sx_sub (Sub.cons (t := 0) rfl (.cons (t := 2) rfl (.cons (t := 21) rfl (.nil)))) ?_
  refine sx_condT rfl ?_
  refine sx_seq fun K4 k4 => sx_region ?_
  refine sa rfl rfl rfl rfl ?_
  refine wl_nil (q_n (k4 _ _ ?_))
  refine sx_retc ?_
  refine q_r (sx_ret1 Tryd.results57 rfl ?_)
  exact ⟨bFalse (fun h => by first | (have h1 := h.2.1; omega) | exact h.2.2 ((last_getD (by omega)).2 (by assumption))), (Chg.refl 0 0 _)⟩
 ·
  refine sx_guardT rfl rfl rfl ?_
  refine sm rfl rfl rfl rfl ?_
  refine sx_guardT rfl rfl rfl ?_
  refine sx_pure rfl rfl rfl (px_len rfl Tryd.underlying44 hva0) ?_
  refine sx_guardT rfl rfl rfl ?_
  refine sx_pure rfl rfl rfl (px_gt rfl rfl) ?_
  refine sx_guardT rfl rfl rfl ?_
  refine sm rfl rfl rfl rfl ?_
  refine sx_tmpP (t := 12) rfl (fun h13x1 => ?_) (fun h13x1 => ?_)
  ·
   refine sx_guardT rfl rfl rfl ?_
   refine sm rfl rfl rfl rfl ?_
   refine sx_guardT rfl rfl rfl ?_
   refine sm rfl rfl rfl rfl ?_
   refine sx_guardT rfl rfl rfl ?_
   refine sx_pure rfl rfl rfl (px_len rfl Tryd.underlying44 hva0) ?_
   refine sx_guardT rfl rfl rfl ?_
   refine sx_pure rfl rfl rfl (px_sub rfl rfl (by omega)) ?_
   refine sx_guardT rfl rfl rfl ?_
   refine sx_pure rfl rfl rfl (px_index1 (j := (zs.length - 1)) rfl rfl (by omega) Tryd.underlying44 Tryd.sizeOf3 hva0 (by omega)) ?_
   refine sx_guardT rfl rfl rfl ?_
   refine sx_pure rfl rfl rfl (px_load rfl (hva0.load1 (at_int (by omega)) Tryd.isAgg3)) ?_
   refine sx_guardT rfl rfl rfl ?_
   refine sx_pure rfl rfl rfl (px_eq rfl rfl) ?_
   refine sx_guardT rfl rfl rfl ?_
   refine sx_pure rfl rfl rfl (px_pick rfl rfl) ?_
   refine sx_pure rfl rfl rfl (px_pick rfl rfl) ?_
   refine wl_nil (q_n (k3 _ _ ?_))
   refine sx_sub (Sub.cons (t := 0) rfl (.cons (t := 2) rfl (.cons (t := 21) rfl (.nil)))) ?_
   refine sx_condP rfl (fun h13x2 => ?_) (fun h13x2 => ?_)
   ·
    refine sx_seq fun K5 k5 => sx_region ?_
    refine sa rfl rfl rfl rfl ?_
    refine wl_nil (q_n (k5 _ _ ?_))
    refine sx_retc ?_
    refine q_r (sx_ret1 Tryd.results57 rfl ?_)
    exact ⟨bFalse (fun h => by first | (have h1 := h.2.1; omega) | exact h.2.2 ((last_getD (by omega)).2 (by assumption))), (Chg.refl 0 0 _)⟩
   ·
    refine sx_skip ?_
    refine q_n (k2 _ _ ?_)
    refine sx_seq fun K6 k6 => ?_
    refine sx_seq fun K7 k7 => sx_region ?_
    refine sm rfl rfl rfl rfl ?_
    refine sx_pure rfl rfl rfl (px_len rfl Tryd.underlying44 hva0) ?_
    refine sm rfl rfl rfl rfl ?_
    refine wl_nil (q_n (k7 _ _ ?_))
    refine sx_block ?_
    refine sx_loop (fun mm aa w' => ∃ (k : Nat), Agr 35 [(22, va), (23, .int .i64 ↑zs.length), (24, .int .i64 ↑k)] aa ∧ Chg 0 0 w w' ∧ (mm = zs.length - k) ∧ (k ≤ zs.length) ∧ (∀ i, i < k → 0 ≤ zs.getD i 0 ∧ zs.getD i 0 < 1000000000)) (_) (fun a ha => ⟨0, ha.sub (Sub.cons (t := 22) rfl (.cons (t := 23) (look_int (t := 23) rfl (by first | omega | simp)) (.cons (t := 24) (look_int (t := 24) rfl (by first | omega | simp)) (.nil)))), Chg.refl _ _ _, rfl, by omega, fun i h => by omega⟩) ?_
    rintro mm aa wl8 ⟨k, hAwl8, cwl8, hm, hk, hall⟩
    refine (show cw Tryd.prog 35 _ _ _ wl8 from ?_) aa hAwl8
    clear hAwl8
    have zwl8 := cwl8.size
    refine sx_seq fun K9 k9 => sx_region ?_
    refine sx_pure rfl rfl rfl (px_lt rfl rfl) ?_
    refine wl_nil (q_n (k9 _ _ ?_))
    refine sx_seq fun K10 k10 => ?_
    refine sx_condP rfl (fun h16 => ?_) (fun h16 => ?_)
    ·
     refine sx_skip ?_
     refine q_n (k10 _ _ ?_)
     refine sx_seq fun K11 k11 => ?_
     refine sx_block ?_
     refine sx_seq fun K12 k12 => sx_region ?_
     have f13 := hva0.ext cwl8
     refine sx_pure rfl rfl rfl (px_index1 (j := k) rfl rfl (by omega) Tryd.underlying44 Tryd.sizeOf3 f13 (by omega)) ?_
     refine sx_pure rfl rfl rfl (px_load rfl (f13.load1 (at_int (by omega)) Tryd.isAgg3)) ?_
     refine sa rfl rfl rfl rfl ?_
     refine wl_nil (q_n (k12 _ _ ?_))
     refine sx_seq fun K14 k14 => sx_region ?_
     refine sm rfl rfl rfl rfl ?_
     refine sx_pure rfl rfl rfl (px_lt rfl rfl) ?_
     refine sm rfl rfl rfl rfl ?_
     refine sx_tmpP (t := 30) rfl (fun h17 => ?_) (fun h17 => ?_)
     ·
      refine sx_guardF rfl rfl rfl rfl rfl rfl ?_
      refine sx_guardF rfl rfl rfl rfl rfl rfl ?_
      refine sx_pure rfl rfl rfl (px_pick rfl rfl) ?_
      refine wl_nil (q_n (k14 _ _ ?_))
      refine sx_condT rfl ?_
      refine sx_seq fun K15 k15 => sx_region ?_
      refine sa rfl rfl rfl rfl ?_
      refine wl_nil (q_n (k15 _ _ ?_))
      refine sx_retc ?_
      refine q_br (q_r (q_r (q_br (q_r (sx_ret1 Tryd.results57 rfl ?_)))))
      exact ⟨bFalse (fun h => by have h1 := h.1.getD k; omega), cwl8⟩
     ·
      refine sx_guardT rfl rfl rfl ?_
      refine sm rfl rfl rfl rfl ?_
      refine sx_guardT rfl rfl rfl ?_
      refine sx_pure rfl rfl rfl (px_ge rfl rfl) ?_
      refine sx_pure rfl rfl rfl (px_pick rfl rfl) ?_
      refine wl_nil (q_n (k14 _ _ ?_))
      refine sx_condP rfl (fun h17x1 => ?_) (fun h17x1 => ?_)
      ·
       refine sx_seq fun K16 k16 => sx_region ?_
       refine sa rfl rfl rfl rfl ?_
       refine wl_nil (q_n (k16 _ _ ?_))
       refine sx_retc ?_
       refine q_br (q_r (q_r (q_br (q_r (sx_ret1 Tryd.results57 rfl ?_)))))
       exact ⟨bFalse (fun h => by have h1 := h.1.getD k; omega), cwl8⟩
      ·
       refine sx_skip ?_
       refine q_bn (q_n (k11 _ _ ?_))
       refine sx_region ?_
       refine sx_pure rfl rfl rfl (px_add rfl rfl (by omega)) ?_
       refine sm rfl rfl rfl rfl ?_
       refine wl_nil ?_
       exact fun a ha => ⟨_, by omega, (k + 1), ha.sub (Sub.cons (t := 22) rfl (.cons (t := 23) rfl (.cons (t := 24) (look_int (t := 24) rfl (by first | omega | simp)) (.nil)))), cwl8, rfl, by omega, lm_succ hall (by omega)⟩
    ·
     refine sx_exit ?_
     refine q_e (q_e (q_bx (q_n (k6 _ _ ?_))))
     refine sx_seq fun K17 k17 => sx_region ?_
     refine sa rfl rfl rfl rfl ?_
     refine wl_nil (q_n (k17 _ _ ?_))
     refine sx_retc ?_
     refine sx_ret1 Tryd.results57 rfl ?_
     have ek : k = zs.length := by omega
     have hz : Lm zs := lm_mem (by rw [← ek]; exact hall)
     exact ⟨bTrue (NOk_mk hz (by omega) (by first | exact .inl (by omega) | exact .inr (by assumption))), cwl8⟩
  ·
   refine sx_guardF rfl rfl rfl rfl rfl rfl ?_
   refine sx_guardF rfl rfl rfl rfl rfl rfl ?_
   refine sx_guardF rfl rfl rfl rfl rfl rfl ?_
   refine sx_guardF rfl rfl rfl rfl rfl rfl ?_
   refine sx_guardF rfl rfl rfl rfl rfl rfl ?_
   refine sx_guardF rfl rfl rfl rfl rfl rfl ?_
   refine sx_guardF rfl rfl rfl rfl rfl rfl ?_
   refine sx_guardT rfl rfl rfl ?_
   refine sx_pure rfl rfl rfl (px_pick rfl rfl) ?_
   refine sx_pure rfl rfl rfl (px_pick rfl rfl) ?_
   refine wl_nil (q_n (k3 _ _ ?_))
   refine sx_sub (Sub.cons (t := 0) rfl (.cons (t := 2) rfl (.cons (t := 21) rfl (.nil)))) ?_
   refine sx_condF rfl ?_
   refine sx_skip ?_
   refine q_n (k2 _ _ ?_)
   refine sx_seq fun K18 k18 => ?_
   refine sx_seq fun K19 k19 => sx_region ?_
   refine sm rfl rfl rfl rfl ?_
   refine sx_pure rfl rfl rfl (px_len rfl Tryd.underlying44 hva0) ?_
   refine sm rfl rfl rfl rfl ?_
   refine wl_nil (q_n (k19 _ _ ?_))
   refine sx_block ?_
   refine sx_loop (fun mm aa w' => ∃ (k : Nat), Agr 35 [(22, va), (23, .int .i64 ↑zs.length), (24, .int .i64 ↑k)] aa ∧ Chg 0 0 w w' ∧ (mm = zs.length - k) ∧ (k ≤ zs.length) ∧ (∀ i, i < k → 0 ≤ zs.getD i 0 ∧ zs.getD i 0 < 1000000000)) (_) (fun a ha => ⟨0, ha.sub (Sub.cons (t := 22) rfl (.cons (t := 23) (look_int (t := 23) rfl (by first | omega | simp)) (.cons (t := 24) (look_int (t := 24) rfl (by first | omega | simp)) (.nil)))), Chg.refl _ _ _, rfl, by omega, fun i h => by omega⟩) ?_
   rintro mm aa wl20 ⟨k, hAwl20, cwl20, hm, hk, hall⟩
   refine (show cw Tryd.prog 35 _ _ _ wl20 from ?_) aa hAwl20
   clear hAwl20
   have zwl20 := cwl20.size
   refine sx_seq fun K21 k21 => sx_region ?_
   refine sx_pure rfl rfl rfl (px_lt rfl rfl) ?_
   refine wl_nil (q_n (k21 _ _ ?_))
   refine sx_seq fun K22 k22 => ?_
   refine sx_condP rfl (fun h16 => ?_) (fun h16 => ?_)
   ·
    refine sx_skip ?_
    refine q_n (k22 _ _ ?_)
    refine sx_seq fun K23 k23 => ?_
    refine sx_block ?_
    refine sx_seq fun K24 k24 => sx_region ?_
    have f25 := hva0.ext cwl20
    refine sx_pure rfl rfl rfl (px_index1 (j := k) rfl rfl (by omega) Tryd.underlying44 Tryd.sizeOf3 f25 (by omega)) ?_
    refine sx_pure rfl rfl rfl (px_load rfl (f25.load1 (at_int (by omega)) Tryd.isAgg3)) ?_
    refine sa rfl rfl rfl rfl ?_
    refine wl_nil (q_n (k24 _ _ ?_))
    refine sx_seq fun K26 k26 => sx_region ?_
    refine sm rfl rfl rfl rfl ?_
    refine sx_pure rfl rfl rfl (px_lt rfl rfl) ?_
    refine sm rfl rfl rfl rfl ?_
    refine sx_tmpP (t := 30) rfl (fun h17 => ?_) (fun h17 => ?_)
    ·
     refine sx_guardF rfl rfl rfl rfl rfl rfl ?_
     refine sx_guardF rfl rfl rfl rfl rfl rfl ?_
     refine sx_pure rfl rfl rfl (px_pick rfl rfl) ?_
     refine wl_nil (q_n (k26 _ _ ?_))
     refine sx_condT rfl ?_
     refine sx_seq fun K27 k27 => sx_region ?_
     refine sa rfl rfl rfl rfl ?_
     refine wl_nil (q_n (k27 _ _ ?_))
     refine sx_retc ?_
     refine q_br (q_r (q_r (q_br (q_r (sx_ret1 Tryd.results57 rfl ?_)))))
     exact ⟨bFalse (fun h => by have h1 := h.1.getD k; omega), cwl20⟩
    ·
     refine sx_guardT rfl rfl rfl ?_
     refine sm rfl rfl rfl rfl ?_
     refine sx_guardT rfl rfl rfl ?_
     refine sx_pure rfl rfl rfl (px_ge rfl rfl) ?_
     refine sx_pure rfl rfl rfl (px_pick rfl rfl) ?_
     refine wl_nil (q_n (k26 _ _ ?_))
     refine sx_condP rfl (fun h17x1 => ?_) (fun h17x1 => ?_)
     ·
      refine sx_seq fun K28 k28 => sx_region ?_
      refine sa rfl rfl rfl rfl ?_
      refine wl_nil (q_n (k28 _ _ ?_))
      refine sx_retc ?_
      refine q_br (q_r (q_r (q_br (q_r (sx_ret1 Tryd.results57 rfl ?_)))))
      exact ⟨bFalse (fun h => by have h1 := h.1.getD k; omega), cwl20⟩
     ·
      refine sx_skip ?_
      refine q_bn (q_n (k23 _ _ ?_))
      refine sx_region ?_
      refine sx_pure rfl rfl rfl (px_add rfl rfl (by omega)) ?_
      refine sm rfl rfl rfl rfl ?_
      refine wl_nil ?_
      exact fun a ha => ⟨_, by omega, (k + 1), ha.sub (Sub.cons (t := 22) rfl (.cons (t := 23) rfl (.cons (t := 24) (look_int (t := 24) rfl (by first | omega | simp)) (.nil)))), cwl20, rfl, by omega, lm_succ hall (by omega)⟩
   ·
    refine sx_exit ?_
    refine q_e (q_e (q_bx (q_n (k18 _ _ ?_))))
    refine sx_seq fun K29 k29 => sx_region ?_
    refine sa rfl rfl rfl rfl ?_
    refine wl_nil (q_n (k29 _ _ ?_))
    refine sx_retc ?_
    refine sx_ret1 Tryd.results57 rfl ?_
    have ek : k = zs.length := by omega
    have hz : Lm zs := lm_mem (by rw [← ek]; exact hall)
    exact ⟨bTrue (NOk_mk hz (by omega) (by first | exact .inl (by omega) | exact .inr (by assumption))), cwl20⟩

theorem c_iIntOk {w : World} {n1 : Bool} {v1 : Value} {lv1 uv1 : Nat} {z1 : List Int} (hv1 : Sl w lv1 uv1 v1 (z1)) (h63 : z1.length ≤ 4611686018427387904) :
  Ret Tryd.prog 52 [.agg #[.bool n1, v1]] w fun v w' => v = .bool (decide (IOk n1 z1)) ∧ Chg 0 0 w w' := by
 have hv10 := hv1.fit
 refine sx_enter Tryd.func52 rfl Tryd.ntmps52 (Nat.le_of_ble_eq_true rfl) ?_
 refine sx_seq fun K1 k1 => sx_region ?_
 refine sx_box [.bool n1, v1] rfl rfl rfl (fun b2 w3 eb2 sb2 fb2 cb2 => ?_)
 have zw3 := cb2.size
 refine sa rfl rfl rfl rfl ?_
 refine wl_nil (q_n (k1 _ _ ?_))
 refine sx_seq fun K4 k4 => sx_region ?_
 refine sx_pure rfl rfl rfl (px_field rfl xfld53x1) ?_
 refine sx_pure rfl rfl rfl (px_load rfl (fb2.load1 rfl Tryd.isAgg44)) ?_
 have f5 := hv10.ext cb2
 refine sx_call rfl rfl Tryd.call57 (c_iNatOk f5 (by omega)) (fun v6 w6 p6 => ?_)
 obtain ⟨rfl, c6⟩ := p6
 have zw6 := c6.size
 refine sm rfl rfl rfl rfl ?_
 refine sx_tmpP (t := 6) rfl (fun h10 => ?_) (fun h10 => ?_)
 ·
  refine sx_guardT rfl rfl rfl ?_
  refine sx_pure rfl rfl rfl (px_field rfl xfld53x0) ?_
  refine sx_guardT rfl rfl rfl ?_
  have f7 := fb2.ext c6
  refine sx_pure rfl rfl rfl (px_load rfl (f7.load1 rfl Tryd.isAgg4)) ?_
  refine sx_guardT rfl rfl rfl ?_
  refine sx_pure rfl rfl rfl (px_not rfl) ?_
  refine sx_guardT rfl rfl rfl ?_
  refine sm rfl rfl rfl rfl ?_
  refine sx_tmpB (t := 10) rfl (fun h10x1 => ?_) (fun h10x1 => ?_)
  ·
   refine sx_guardF rfl rfl rfl rfl rfl rfl ?_
   refine sx_guardF rfl rfl rfl rfl rfl rfl ?_
   refine sx_guardF rfl rfl rfl rfl rfl rfl ?_
   refine sx_guardF rfl rfl rfl rfl rfl rfl ?_
   refine sx_guardT rfl rfl rfl ?_
   refine sx_pure rfl rfl rfl (px_pick rfl rfl) ?_
   refine sx_pure rfl rfl rfl (px_pick rfl rfl) ?_
   refine sa rfl rfl rfl rfl ?_
   refine wl_nil (q_n (k4 _ _ ?_))
   refine sx_sub (Sub.cons (t := 2) rfl (.nil)) ?_
   refine sx_retc ?_
   refine sx_ret1 Tryd.results52 rfl ?_
   exact ⟨(by first | exact bTrue (by grind [IOk]) | exact bFalse (by grind [IOk]) | exact bIff (by grind [IOk])), (cb2.t c6)⟩
  ·
   refine sx_guardT rfl rfl rfl ?_
   refine sx_pure rfl rfl rfl (px_field rfl xfld53x1) ?_
   refine sx_guardT rfl rfl rfl ?_
   refine sx_pure rfl rfl rfl (px_load rfl (f7.load1 rfl Tryd.isAgg44)) ?_
   refine sx_guardT rfl rfl rfl ?_
   have f8 := f5.ext c6
   refine sx_pure rfl rfl rfl (px_len rfl Tryd.underlying44 f8) ?_
   refine sx_guardT rfl rfl rfl ?_
   refine sx_pure rfl rfl rfl (px_gt rfl rfl) ?_
   refine sx_guardT rfl rfl rfl ?_
   refine sx_pure rfl rfl rfl (px_pick rfl rfl) ?_
   refine sx_pure rfl rfl rfl (px_pick rfl rfl) ?_
   refine sa rfl rfl rfl rfl ?_
   refine wl_nil (q_n (k4 _ _ ?_))
   refine sx_sub (Sub.cons (t := 2) rfl (.nil)) ?_
   refine sx_retc ?_
   refine sx_ret1 Tryd.results52 rfl ?_
   exact ⟨(by first | exact bTrue (by grind [IOk]) | exact bFalse (by grind [IOk]) | exact bIff (by grind [IOk])), (cb2.t c6)⟩
 ·
  refine sx_guardF rfl rfl rfl rfl rfl rfl ?_
  refine sx_guardF rfl rfl rfl rfl rfl rfl ?_
  refine sx_guardF rfl rfl rfl rfl rfl rfl ?_
  refine sx_guardF rfl rfl rfl rfl rfl rfl ?_
  refine sx_guardFU rfl rfl rfl rfl rfl ?_
  refine sx_guardFU rfl rfl rfl rfl rfl ?_
  refine sx_guardFU rfl rfl rfl rfl rfl ?_
  refine sx_guardFU rfl rfl rfl rfl rfl ?_
  refine sx_guardF rfl rfl rfl rfl rfl rfl ?_
  refine sx_pure rfl rfl rfl (px_pick rfl rfl) ?_
  refine sa rfl rfl rfl rfl ?_
  refine wl_nil (q_n (k4 _ _ ?_))
  refine sx_sub (Sub.cons (t := 2) rfl (.nil)) ?_
  refine sx_retc ?_
  refine sx_ret1 Tryd.results52 rfl ?_
  exact ⟨(by first | exact bTrue (by grind [IOk]) | exact bFalse (by grind [IOk]) | exact bIff (by grind [IOk])), (cb2.t c6)⟩

theorem c_isScale {w : World} {p : Int} :
  Ret Tryd.prog 53 [.int .i64 p] w fun v w' => v = .bool (decide (0 ≤ p ∧ p ≤ 30)) ∧ Chg 0 0 w w' := by
 refine sx_enter Tryd.func53 rfl Tryd.ntmps53 (Nat.le_of_ble_eq_true rfl) ?_
 refine sx_seq fun K1 k1 => sx_region ?_
 refine sa rfl rfl rfl rfl ?_
 refine wl_nil (q_n (k1 _ _ ?_))
 refine sx_seq fun K2 k2 => sx_region ?_
 refine sm rfl rfl rfl rfl ?_
 refine sx_pure rfl rfl rfl (px_ge rfl rfl) ?_
 refine sm rfl rfl rfl rfl ?_
 refine sx_tmpP (t := 5) rfl (fun h15 => ?_) (fun h15 => ?_)
 ·
  refine sx_guardT rfl rfl rfl ?_
  refine sm rfl rfl rfl rfl ?_
  refine sx_guardT rfl rfl rfl ?_
  refine sx_pure rfl rfl rfl (px_le rfl rfl) ?_
  refine sx_pure rfl rfl rfl (px_pick rfl rfl) ?_
  refine sa rfl rfl rfl rfl ?_
  refine wl_nil (q_n (k2 _ _ ?_))
  refine sx_retc ?_
  refine sx_ret1 Tryd.results53 rfl ?_
  exact ⟨(by first | exact bTrue (by grind) | exact bFalse (by grind) | exact bIff (by grind)), (Chg.refl 0 0 _)⟩
 ·
  refine sx_guardF rfl rfl rfl rfl rfl rfl ?_
  refine sx_guardF rfl rfl rfl rfl rfl rfl ?_
  refine sx_pure rfl rfl rfl (px_pick rfl rfl) ?_
  refine sa rfl rfl rfl rfl ?_
  refine wl_nil (q_n (k2 _ _ ?_))
  refine sx_retc ?_
  refine sx_ret1 Tryd.results53 rfl ?_
  exact ⟨(by first | exact bTrue (by grind) | exact bFalse (by grind) | exact bIff (by grind)), (Chg.refl 0 0 _)⟩

theorem c_iDecOk {w : World} {n1 : Bool} {v1 : Value} {lv1 uv1 : Nat} {z1 : List Int} {p1 : Int} (hv1 : Sl w lv1 uv1 v1 (z1)) (h63 : z1.length ≤ 4611686018427387904) :
  Ret Tryd.prog 44 [.agg #[.bool n1, v1, .int .i64 p1]] w fun v w' => v = .bool (decide (DOk n1 z1 p1)) ∧ Chg 0 0 w w' := by
 have hv10 := hv1.fit
 refine sx_enter Tryd.func44 rfl Tryd.ntmps44 (Nat.le_of_ble_eq_true rfl) ?_
 refine sx_seq fun K1 k1 => sx_region ?_
 refine sx_box [.bool n1, v1, .int .i64 p1] rfl rfl rfl (fun b2 w3 eb2 sb2 fb2 cb2 => ?_)
 have zw3 := cb2.size
 refine sa rfl rfl rfl rfl ?_
 refine wl_nil (q_n (k1 _ _ ?_))
 refine sx_seq fun K4 k4 => sx_region ?_
 refine sx_pure rfl rfl rfl (px_field rfl xfld55x0) ?_
 refine sx_pure rfl rfl rfl (px_load rfl (fb2.loadA (vs := [.bool n1, v1]) (look_lit rfl) Tryd.isAgg53 Tryd.sizeOf53)) ?_
 have f5 := hv10.ext cb2
 refine sx_call rfl rfl Tryd.call52 (c_iIntOk f5 (by omega)) (fun v6 w6 p6 => ?_)
 obtain ⟨rfl, c6⟩ := p6
 have zw6 := c6.size
 refine sm rfl rfl rfl rfl ?_
 refine sx_tmpP (t := 6) rfl (fun h18 => ?_) (fun h18 => ?_)
 ·
  refine sx_guardT rfl rfl rfl ?_
  refine sx_pure rfl rfl rfl (px_field rfl xfld55x0) ?_
  refine sx_guardT rfl rfl rfl ?_
  refine sx_pure rfl rfl rfl (px_field rfl xfld53x1) ?_
  refine sx_guardT rfl rfl rfl ?_
  have f7 := fb2.ext c6
  refine sx_pure rfl rfl rfl (px_load rfl (f7.load1 rfl Tryd.isAgg44)) ?_
  refine sx_guardT rfl rfl rfl ?_
  have f8 := f5.ext c6
  refine sx_pure rfl rfl rfl (px_len rfl Tryd.underlying44 f8) ?_
  refine sx_guardT rfl rfl rfl ?_
  refine sx_pure rfl rfl rfl (px_le rfl rfl) ?_
  refine sx_pure rfl rfl rfl (px_pick rfl rfl) ?_
  refine sm rfl rfl rfl rfl ?_
  refine sx_tmpP (t := 13) rfl (fun h18x1 => ?_) (fun h18x1 => ?_)
  ·
   refine sx_guardT rfl rfl rfl ?_
   refine sx_pure rfl rfl rfl (px_field rfl xfld55x1) ?_
   refine sx_guardT rfl rfl rfl ?_
   refine sx_pure rfl rfl rfl (px_load rfl (f7.load1 rfl Tryd.isAgg3)) ?_
   refine sx_guardT rfl rfl rfl ?_
   refine sx_call rfl rfl Tryd.call53 (c_isScale) (fun v9 w9 p9 => ?_)
   obtain ⟨rfl, c9⟩ := p9
   have zw9 := c9.size
   refine sx_pure rfl rfl rfl (px_pick rfl rfl) ?_
   refine sa rfl rfl rfl rfl ?_
   refine wl_nil (q_n (k4 _ _ ?_))
   refine sx_sub (Sub.cons (t := 2) rfl (.nil)) ?_
   refine sx_retc ?_
   refine sx_ret1 Tryd.results44 rfl ?_
   exact ⟨(by first | exact bTrue (by grind [DOk]) | exact bFalse (by grind [DOk]) | exact bIff (by grind [DOk])), ((cb2.t c6).t c9)⟩
  ·
   refine sx_guardF rfl rfl rfl rfl rfl rfl ?_
   refine sx_guardF rfl rfl rfl rfl rfl rfl ?_
   refine sx_guardF rfl rfl rfl rfl rfl rfl ?_
   refine sx_pure rfl rfl rfl (px_pick rfl rfl) ?_
   refine sa rfl rfl rfl rfl ?_
   refine wl_nil (q_n (k4 _ _ ?_))
   refine sx_sub (Sub.cons (t := 2) rfl (.nil)) ?_
   refine sx_retc ?_
   refine sx_ret1 Tryd.results44 rfl ?_
   exact ⟨(by first | exact bTrue (by grind [DOk]) | exact bFalse (by grind [DOk]) | exact bIff (by grind [DOk])), (cb2.t c6)⟩
 ·
  refine sx_guardF rfl rfl rfl rfl rfl rfl ?_
  refine sx_guardF rfl rfl rfl rfl rfl rfl ?_
  refine sx_guardF rfl rfl rfl rfl rfl rfl ?_
  refine sx_guardF rfl rfl rfl rfl rfl rfl ?_
  refine sx_guardF rfl rfl rfl rfl rfl rfl ?_
  refine sx_pure rfl rfl rfl (px_pick rfl rfl) ?_
  refine sm rfl rfl rfl rfl ?_
  refine sx_guardF rfl rfl rfl rfl rfl rfl ?_
  refine sx_guardF rfl rfl rfl rfl rfl rfl ?_
  refine sx_guardF rfl rfl rfl rfl rfl rfl ?_
  refine sx_pure rfl rfl rfl (px_pick rfl rfl) ?_
  refine sa rfl rfl rfl rfl ?_
  refine wl_nil (q_n (k4 _ _ ?_))
  refine sx_sub (Sub.cons (t := 2) rfl (.nil)) ?_
  refine sx_retc ?_
  refine sx_ret1 Tryd.results44 rfl ?_
  exact ⟨(by first | exact bTrue (by grind [DOk]) | exact bFalse (by grind [DOk]) | exact bIff (by grind [DOk])), (cb2.t c6)⟩

theorem c_intSign {w : World} {va : Value} {lva uva : Nat} {x : Int} (hva : Sl w lva uva va (dg x.natAbs)) (hbx : (dg x.natAbs).length ≤ 1000) :
  Ret Tryd.prog 45 [.agg #[.bool (ng x), va]] w fun v w' => v = .int .i64 ((x).sign) ∧ Chg 0 0 w w' := by
 have hva0 := hva.fit
 refine sx_enter Tryd.func45 rfl Tryd.ntmps45 (Nat.le_of_ble_eq_true rfl) ?_
 refine sx_seq fun K1 k1 => sx_region ?_
 refine sx_box [.bool (ng x), va] rfl rfl rfl (fun b2 w3 eb2 sb2 fb2 cb2 => ?_)
 have zw3 := cb2.size
 refine sa rfl rfl rfl rfl ?_
 refine wl_nil (q_n (k1 _ _ ?_))
 refine sx_seq fun K4 k4 => ?_
 refine sx_block ?_
 refine sx_seq fun K5 k5 => sx_region ?_
 refine sx_pure rfl rfl rfl (px_field rfl xfld53x1) ?_
 refine sx_pure rfl rfl rfl (px_load rfl (fb2.load1 rfl Tryd.isAgg44)) ?_
 have f6 := hva0.ext cb2
 refine sx_pure rfl rfl rfl (px_len rfl Tryd.underlying44 f6) ?_
 refine sx_pure rfl rfl rfl (px_eq rfl rfl) ?_
 refine sa rfl rfl rfl rfl ?_
 refine wl_nil (q_n (k5 _ _ ?_))
 refine sx_condP rfl (fun h101 => ?_) (fun h101 => ?_)
 ·
  refine sx_seq fun K7 k7 => sx_region ?_
  refine sa rfl rfl rfl rfl ?_
  refine wl_nil (q_n (k7 _ _ ?_))
  refine sx_retc ?_
  refine q_br (q_r (sx_ret1 Tryd.results45 rfl ?_))
  exact ⟨(by rw [sign_z (by omega)]), cb2⟩
 ·
  refine sx_seq fun K8 k8 => sx_region ?_
  refine sx_pure rfl rfl rfl (px_field rfl xfld53x0) ?_
  refine sx_pure rfl rfl rfl (px_load rfl (fb2.load1 rfl Tryd.isAgg4)) ?_
  refine sa rfl rfl rfl rfl ?_
  refine wl_nil (q_n (k8 _ _ ?_))
  refine sx_condB rfl (fun h103 => ?_) (fun h103 => ?_)
  ·
   refine sx_seq fun K9 k9 => sx_region ?_
   refine sa rfl rfl rfl rfl ?_
   refine wl_nil (q_n (k9 _ _ ?_))
   refine sx_retc ?_
   refine q_br (q_r (sx_ret1 Tryd.results45 rfl ?_))
   exact ⟨(by rw [sign_n h103]), cb2⟩
  ·
   refine sx_skip ?_
   refine q_bn (q_n (k4 _ _ ?_))
   refine sx_seq fun K10 k10 => sx_region ?_
   refine sa rfl rfl rfl rfl ?_
   refine wl_nil (q_n (k10 _ _ ?_))
   refine sx_retc ?_
   refine sx_ret1 Tryd.results45 rfl ?_
   exact ⟨(by rw [sign_p (by omega) h103]), cb2⟩

theorem c_iRateOk {w : World} {f1 : ByteArray} {t1 : ByteArray} {n1 : Bool} {v1 : Value} {lv1 uv1 : Nat} {z1 : List Int} {p1 : Int} (hG0 : Glob w) (hv1 : Sl w lv1 uv1 v1 (z1)) (h63 : z1.length ≤ 4611686018427387904) :
  Ret Tryd.prog 35 [.agg #[.string f1, .string t1, .bool n1, v1, .int .i64 p1]] w fun v w' => v = .bool (decide (RateP f1 t1 n1 z1 p1)) ∧ Chg 0 0 w w' := by
 have hv10 := hv1.fit
 refine sx_enter Tryd.func35 rfl Tryd.ntmps35 (Nat.le_of_ble_eq_true rfl) ?_
 refine sx_seq fun K1 k1 => sx_region ?_
 refine sx_box [.string f1, .string t1, .bool n1, v1, .int .i64 p1] rfl rfl rfl (fun b2 w3 eb2 sb2 fb2 cb2 => ?_)
 have zw3 := cb2.size
 refine sa rfl rfl rfl rfl ?_
 refine wl_nil (q_n (k1 _ _ ?_))
 refine sx_seq fun K4 k4 => sx_region ?_
 refine sx_pure rfl rfl rfl (px_field rfl xfld57x0) ?_
 refine sx_pure rfl rfl rfl (px_load rfl (fb2.load1 rfl Tryd.isAgg9)) ?_
 have f5 := hG0.ext cb2
 refine sx_call rfl rfl Tryd.call26 (c_iCurKnown f5) (fun v6 w6 p6 => ?_)
 obtain ⟨rfl, c6⟩ := p6
 have zw6 := c6.size
 refine sm rfl rfl rfl rfl ?_
 refine sx_tmpP (t := 6) rfl (fun h36 => ?_) (fun h36 => ?_)
 ·
  refine sx_guardT rfl rfl rfl ?_
  refine sx_pure rfl rfl rfl (px_field rfl xfld57x1) ?_
  refine sx_guardT rfl rfl rfl ?_
  have f7 := fb2.ext c6
  refine sx_pure rfl rfl rfl (px_load rfl (f7.load1 rfl Tryd.isAgg9)) ?_
  refine sx_guardT rfl rfl rfl ?_
  have f8 := f5.ext c6
  refine sx_call rfl rfl Tryd.call26 (c_iCurKnown f8) (fun v9 w9 p9 => ?_)
  obtain ⟨rfl, c9⟩ := p9
  have zw9 := c9.size
  refine sx_pure rfl rfl rfl (px_pick rfl rfl) ?_
  refine sm rfl rfl rfl rfl ?_
  refine sx_tmpP (t := 11) rfl (fun h36x1 => ?_) (fun h36x1 => ?_)
  ·
   refine sx_guardT rfl rfl rfl ?_
   refine sx_pure rfl rfl rfl (px_field rfl xfld57x0) ?_
   refine sx_guardT rfl rfl rfl ?_
   have f10 := f7.ext c9
   refine sx_pure rfl rfl rfl (px_load rfl (f10.load1 rfl Tryd.isAgg9)) ?_
   refine sx_guardT rfl rfl rfl ?_
   refine sx_pure rfl rfl rfl (px_field rfl xfld57x1) ?_
   refine sx_guardT rfl rfl rfl ?_
   refine sx_pure rfl rfl rfl (px_load rfl (f10.load1 rfl Tryd.isAgg9)) ?_
   refine sx_guardT rfl rfl rfl ?_
   refine sx_pure rfl rfl rfl (px_neS rfl rfl) ?_
   refine sx_pure rfl rfl rfl (px_pick rfl rfl) ?_
   refine sm rfl rfl rfl rfl ?_
   refine sx_tmpP (t := 18) rfl (fun h36x2 => ?_) (fun h36x2 => ?_)
   ·
    refine sx_guardT rfl rfl rfl ?_
    refine sx_pure rfl rfl rfl (px_field rfl xfld57x2) ?_
    refine sx_guardT rfl rfl rfl ?_
    refine sx_pure rfl rfl rfl (px_load rfl (f10.loadA (vs := [.bool n1, v1, .int .i64 p1]) (look_lit rfl) Tryd.isAgg55 Tryd.sizeOf55)) ?_
    refine sx_guardT rfl rfl rfl ?_
    have f11 := hv10.ext cb2
    have f12 := f11.ext c6
    have f13 := f12.ext c9
    refine sx_call rfl rfl Tryd.call44 (c_iDecOk f13 (by omega)) (fun v14 w14 p14 => ?_)
    obtain ⟨rfl, c14⟩ := p14
    have zw14 := c14.size
    refine sx_pure rfl rfl rfl (px_pick rfl rfl) ?_
    refine sm rfl rfl rfl rfl ?_
    refine sx_tmpP (t := 23) rfl (fun h36x3 => ?_) (fun h36x3 => ?_)
    ·
     have hD := h36x3
     obtain ⟨x1, rfl, rfl, hx1⟩ := hD.int
     have hvx := vI_ng x1
     have hsx := sign_gt (x := x1)
     have hcx := cmpI_gt0 (x := x1)
     refine sx_guardT rfl rfl rfl ?_
     refine sx_pure rfl rfl rfl (px_field rfl xfld57x2) ?_
     refine sx_guardT rfl rfl rfl ?_
     refine sx_pure rfl rfl rfl (px_field rfl xfld55x0) ?_
     refine sx_guardT rfl rfl rfl ?_
     have f15 := f10.ext c14
     refine sx_pure rfl rfl rfl (px_load rfl (f15.loadA (vs := [.bool (ng x1), v1]) (look_lit rfl) Tryd.isAgg53 Tryd.sizeOf53)) ?_
     refine sx_guardT rfl rfl rfl ?_
     have f16 := f13.ext c14
     refine sx_call rfl rfl Tryd.call45 (c_intSign f16 (by omega)) (fun v17 w17 p17 => ?_)
     obtain ⟨rfl, c17⟩ := p17
     have zw17 := c17.size
     refine sx_guardT rfl rfl rfl ?_
     refine sx_pure rfl rfl rfl (px_gt rfl rfl) ?_
     refine sx_pure rfl rfl rfl (px_pick rfl rfl) ?_
     refine sm rfl rfl rfl rfl ?_
     refine sx_tmpP (t := 30) rfl (fun h36x4 => ?_) (fun h36x4 => ?_)
     ·
      refine sx_guardT rfl rfl rfl ?_
      refine sx_pure rfl rfl rfl (px_field rfl xfld57x2) ?_
      refine sx_guardT rfl rfl rfl ?_
      refine sx_pure rfl rfl rfl (px_field rfl xfld55x0) ?_
      refine sx_guardT rfl rfl rfl ?_
      refine sx_pure rfl rfl rfl (px_field rfl xfld53x1) ?_
      refine sx_guardT rfl rfl rfl ?_
      have f18 := f15.ext c17
      refine sx_pure rfl rfl rfl (px_load rfl (f18.load1 rfl Tryd.isAgg44)) ?_
      refine sx_guardT rfl rfl rfl ?_
      have f19 := f16.ext c17
      refine sx_pure rfl rfl rfl (px_len rfl Tryd.underlying44 f19) ?_
      refine sx_guardT rfl rfl rfl ?_
      refine sx_pure rfl rfl rfl (px_le rfl rfl) ?_
      refine sx_pure rfl rfl rfl (px_pick rfl rfl) ?_
      refine sa rfl rfl rfl rfl ?_
      refine wl_nil (q_n (k4 _ _ ?_))
      refine sx_sub (Sub.cons (t := 2) rfl (.nil)) ?_
      refine sx_retc ?_
      refine sx_ret1 Tryd.results35 rfl ?_
      exact ⟨(by first | exact bTrue (by grind [RateP]) | exact bFalse (by grind [RateP]) | exact bIff (by grind [RateP])), ((((cb2.t c6).t c9).t c14).t c17)⟩
     ·
      refine sx_guardF rfl rfl rfl rfl rfl rfl ?_
      refine sx_guardF rfl rfl rfl rfl rfl rfl ?_
      refine sx_guardF rfl rfl rfl rfl rfl rfl ?_
      refine sx_guardF rfl rfl rfl rfl rfl rfl ?_
      refine sx_guardF rfl rfl rfl rfl rfl rfl ?_
      refine sx_guardF rfl rfl rfl rfl rfl rfl ?_
      refine sx_pure rfl rfl rfl (px_pick rfl rfl) ?_
      refine sa rfl rfl rfl rfl ?_
      refine wl_nil (q_n (k4 _ _ ?_))
      refine sx_sub (Sub.cons (t := 2) rfl (.nil)) ?_
      refine sx_retc ?_
      refine sx_ret1 Tryd.results35 rfl ?_
      exact ⟨(by first | exact bTrue (by grind [RateP]) | exact bFalse (by grind [RateP]) | exact bIff (by grind [RateP])), ((((cb2.t c6).t c9).t c14).t c17)⟩
    ·
     refine sx_guardF rfl rfl rfl rfl rfl rfl ?_
     refine sx_guardF rfl rfl rfl rfl rfl rfl ?_
     refine sx_guardF rfl rfl rfl rfl rfl rfl ?_
     refine sx_guardF rfl rfl rfl rfl rfl rfl ?_
     refine sx_guardF rfl rfl rfl rfl rfl rfl ?_
     refine sx_pure rfl rfl rfl (px_pick rfl rfl) ?_
     refine sm rfl rfl rfl rfl ?_
     refine sx_guardF rfl rfl rfl rfl rfl rfl ?_
     refine sx_guardF rfl rfl rfl rfl rfl rfl ?_
     refine sx_guardF rfl rfl rfl rfl rfl rfl ?_
     refine sx_guardF rfl rfl rfl rfl rfl rfl ?_
     refine sx_guardF rfl rfl rfl rfl rfl rfl ?_
     refine sx_guardF rfl rfl rfl rfl rfl rfl ?_
     refine sx_pure rfl rfl rfl (px_pick rfl rfl) ?_
     refine sa rfl rfl rfl rfl ?_
     refine wl_nil (q_n (k4 _ _ ?_))
     refine sx_sub (Sub.cons (t := 2) rfl (.nil)) ?_
     refine sx_retc ?_
     refine sx_ret1 Tryd.results35 rfl ?_
     exact ⟨(by first | exact bTrue (by grind [RateP]) | exact bFalse (by grind [RateP]) | exact bIff (by grind [RateP])), (((cb2.t c6).t c9).t c14)⟩
   ·
    refine sx_guardF rfl rfl rfl rfl rfl rfl ?_
    refine sx_guardF rfl rfl rfl rfl rfl rfl ?_
    refine sx_guardF rfl rfl rfl rfl rfl rfl ?_
    refine sx_pure rfl rfl rfl (px_pick rfl rfl) ?_
    refine sm rfl rfl rfl rfl ?_
    refine sx_guardF rfl rfl rfl rfl rfl rfl ?_
    refine sx_guardF rfl rfl rfl rfl rfl rfl ?_
    refine sx_guardF rfl rfl rfl rfl rfl rfl ?_
    refine sx_guardF rfl rfl rfl rfl rfl rfl ?_
    refine sx_guardF rfl rfl rfl rfl rfl rfl ?_
    refine sx_pure rfl rfl rfl (px_pick rfl rfl) ?_
    refine sm rfl rfl rfl rfl ?_
    refine sx_guardF rfl rfl rfl rfl rfl rfl ?_
    refine sx_guardF rfl rfl rfl rfl rfl rfl ?_
    refine sx_guardF rfl rfl rfl rfl rfl rfl ?_
    refine sx_guardF rfl rfl rfl rfl rfl rfl ?_
    refine sx_guardF rfl rfl rfl rfl rfl rfl ?_
    refine sx_guardF rfl rfl rfl rfl rfl rfl ?_
    refine sx_pure rfl rfl rfl (px_pick rfl rfl) ?_
    refine sa rfl rfl rfl rfl ?_
    refine wl_nil (q_n (k4 _ _ ?_))
    refine sx_sub (Sub.cons (t := 2) rfl (.nil)) ?_
    refine sx_retc ?_
    refine sx_ret1 Tryd.results35 rfl ?_
    exact ⟨(by first | exact bTrue (by grind [RateP]) | exact bFalse (by grind [RateP]) | exact bIff (by grind [RateP])), ((cb2.t c6).t c9)⟩
  ·
   refine sx_guardF rfl rfl rfl rfl rfl rfl ?_
   refine sx_guardF rfl rfl rfl rfl rfl rfl ?_
   refine sx_guardF rfl rfl rfl rfl rfl rfl ?_
   refine sx_guardF rfl rfl rfl rfl rfl rfl ?_
   refine sx_guardF rfl rfl rfl rfl rfl rfl ?_
   refine sx_pure rfl rfl rfl (px_pick rfl rfl) ?_
   refine sm rfl rfl rfl rfl ?_
   refine sx_guardF rfl rfl rfl rfl rfl rfl ?_
   refine sx_guardF rfl rfl rfl rfl rfl rfl ?_
   refine sx_guardF rfl rfl rfl rfl rfl rfl ?_
   refine sx_pure rfl rfl rfl (px_pick rfl rfl) ?_
   refine sm rfl rfl rfl rfl ?_
   refine sx_guardF rfl rfl rfl rfl rfl rfl ?_
   refine sx_guardF rfl rfl rfl rfl rfl rfl ?_
   refine sx_guardF rfl rfl rfl rfl rfl rfl ?_
   refine sx_guardF rfl rfl rfl rfl rfl rfl ?_
   refine sx_guardF rfl rfl rfl rfl rfl rfl ?_
   refine sx_pure rfl rfl rfl (px_pick rfl rfl) ?_
   refine sm rfl rfl rfl rfl ?_
   refine sx_guardF rfl rfl rfl rfl rfl rfl ?_
   refine sx_guardF rfl rfl rfl rfl rfl rfl ?_
   refine sx_guardF rfl rfl rfl rfl rfl rfl ?_
   refine sx_guardF rfl rfl rfl rfl rfl rfl ?_
   refine sx_guardF rfl rfl rfl rfl rfl rfl ?_
   refine sx_guardF rfl rfl rfl rfl rfl rfl ?_
   refine sx_pure rfl rfl rfl (px_pick rfl rfl) ?_
   refine sa rfl rfl rfl rfl ?_
   refine wl_nil (q_n (k4 _ _ ?_))
   refine sx_sub (Sub.cons (t := 2) rfl (.nil)) ?_
   refine sx_retc ?_
   refine sx_ret1 Tryd.results35 rfl ?_
   exact ⟨(by first | exact bTrue (by grind [RateP]) | exact bFalse (by grind [RateP]) | exact bIff (by grind [RateP])), ((cb2.t c6).t c9)⟩
 ·
  refine sx_guardF rfl rfl rfl rfl rfl rfl ?_
  refine sx_guardF rfl rfl rfl rfl rfl rfl ?_
  refine sx_guardF rfl rfl rfl rfl rfl rfl ?_
  refine sx_pure rfl rfl rfl (px_pick rfl rfl) ?_
  refine sm rfl rfl rfl rfl ?_
  refine sx_guardF rfl rfl rfl rfl rfl rfl ?_
  refine sx_guardF rfl rfl rfl rfl rfl rfl ?_
  refine sx_guardF rfl rfl rfl rfl rfl rfl ?_
  refine sx_guardF rfl rfl rfl rfl rfl rfl ?_
  refine sx_guardF rfl rfl rfl rfl rfl rfl ?_
  refine sx_pure rfl rfl rfl (px_pick rfl rfl) ?_
  refine sm rfl rfl rfl rfl ?_
  refine sx_guardF rfl rfl rfl rfl rfl rfl ?_
  refine sx_guardF rfl rfl rfl rfl rfl rfl ?_
  refine sx_guardF rfl rfl rfl rfl rfl rfl ?_
  refine sx_pure rfl rfl rfl (px_pick rfl rfl) ?_
  refine sm rfl rfl rfl rfl ?_
  refine sx_guardF rfl rfl rfl rfl rfl rfl ?_
  refine sx_guardF rfl rfl rfl rfl rfl rfl ?_
  refine sx_guardF rfl rfl rfl rfl rfl rfl ?_
  refine sx_guardF rfl rfl rfl rfl rfl rfl ?_
  refine sx_guardF rfl rfl rfl rfl rfl rfl ?_
  refine sx_pure rfl rfl rfl (px_pick rfl rfl) ?_
  refine sm rfl rfl rfl rfl ?_
  refine sx_guardF rfl rfl rfl rfl rfl rfl ?_
  refine sx_guardF rfl rfl rfl rfl rfl rfl ?_
  refine sx_guardF rfl rfl rfl rfl rfl rfl ?_
  refine sx_guardF rfl rfl rfl rfl rfl rfl ?_
  refine sx_guardF rfl rfl rfl rfl rfl rfl ?_
  refine sx_guardF rfl rfl rfl rfl rfl rfl ?_
  refine sx_pure rfl rfl rfl (px_pick rfl rfl) ?_
  refine sa rfl rfl rfl rfl ?_
  refine wl_nil (q_n (k4 _ _ ?_))
  refine sx_sub (Sub.cons (t := 2) rfl (.nil)) ?_
  refine sx_retc ?_
  refine sx_ret1 Tryd.results35 rfl ?_
  exact ⟨(by first | exact bTrue (by grind [RateP]) | exact bFalse (by grind [RateP]) | exact bIff (by grind [RateP])), (cb2.t c6)⟩

end Go.Proofs.YtcghgfmickgnkaaDoor
