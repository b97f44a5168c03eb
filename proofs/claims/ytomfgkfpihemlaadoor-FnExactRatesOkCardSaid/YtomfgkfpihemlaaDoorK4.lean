/- Contracts of functions of the program: what each call returns, and that it changes nothing that was. Conditions: as each says. -/
import Derived.Test.YtomfgkfpihemlaaDoorTy
import Derived.Test.YtomfgkfpihemlaaDoorNatJ
import Derived.Test.YtomfgkfpihemlaaDoorPair
import Derived.Test.YtomfgkfpihemlaaDoorK0
import Derived.Test.YtomfgkfpihemlaaDoorK3
set_option linter.unusedVariables false
set_option linter.unusedSimpArgs false
namespace Go.Proofs.YtomfgkfpihemlaaDoor
open Go Go.RowKit
set_option maxRecDepth 100000
theorem c_szRateS {w : World} {vt : Value} {lvt uvt : Nat} {ts : List Rt} {vvt : List Value} {n : Int} (hvt : RtS w lvt uvt vt ts vvt) (bts : ts.length ≤ 9223372036854775807) (hb : ∀ i, i < ts.length → RB (ts.getD i rt0)) (hn : 0 ≤ n ∧ n ≤ 1048576) :
  Ret Tryd.prog 92 [vt, .int .i64 n] w fun v w' => ∃ r, v = .int .i64 (r) ∧ (r < 0 ∨ (0 ≤ r ∧ r ≤ n - (ts).length)) ∧ (0 ≤ r → ∀ i, i < (ts).length → ((ts).getD i rt0).2.2.2.1.length ≤ 1048576) ∧ Chg 0 0 w w' := by
 have hvt0 := hvt.fit
 refine sx_enter Tryd.func92 rfl Tryd.ntmps92 (Nat.le_of_ble_eq_true rfl) ?_
 refine sx_seq fun K1 k1 => sx_region ?_
 refine sa rfl rfl rfl rfl ?_
 refine wl_nil (q_n (k1 _ _ ?_))
 refine sx_seq fun K2 k2 => sx_region ?_
 refine sm rfl rfl rfl rfl ?_
 refine sm rfl rfl rfl rfl ?_
 refine sx_pure rfl rfl rfl (px_len rfl Tryd.underlying64 hvt0.sv) ?_
 refine sx_pure rfl rfl rfl (px_sub rfl rfl (by omega)) ?_
 refine sa rfl rfl rfl rfl ?_
 refine wl_nil (q_n (k2 _ _ ?_))
 refine sx_seq fun K3 k3 => ?_
 refine sx_seq fun K4 k4 => sx_region ?_
 refine sm rfl rfl rfl rfl ?_
 refine sx_pure rfl rfl rfl (px_lt rfl rfl) ?_
 refine wl_nil (q_n (k4 _ _ ?_))
 refine sx_condP rfl (fun h586 => ?_) (fun h586 => ?_)
 ·
  refine sx_seq fun K5 k5 => sx_region ?_
  refine sa rfl rfl rfl rfl ?_
  refine wl_nil (q_n (k5 _ _ ?_))
  refine sx_retc ?_
  refine q_r (sx_ret1 Tryd.results92 rfl ?_)
  exact ⟨_, rfl, by omega, fun h => by omega, (Chg.refl 0 0 _)⟩
 ·
  refine sx_skip ?_
  refine q_n (k3 _ _ ?_)
  refine sx_seq fun K6 k6 => ?_
  refine sx_seq fun K7 k7 => sx_region ?_
  refine sa rfl rfl rfl rfl ?_
  refine wl_nil (q_n (k7 _ _ ?_))
  refine sx_block ?_
  refine sx_loop (fun mm aa w' => ∃ (k : Nat) (c : Int), Agr 27 [(0, vt), (1, .int .i64 c), (5, .int .i64 ↑k)] aa ∧ Chg 0 0 w w' ∧ (mm = ts.length - k) ∧ (k ≤ ts.length) ∧ (0 ≤ c ∧ c ≤ n - ↑ts.length) ∧ (∀ i, i < k → (ts.getD i rt0).2.2.2.1.length ≤ 1048576)) (_) (fun a ha => ⟨0, (n - (↑((ts).length))), ha.sub (Sub.cons (t := 0) rfl (.cons (t := 1) (look_int (t := 1) rfl (by first | omega | simp)) (.cons (t := 5) (look_int (t := 5) rfl (by first | omega | simp)) (.nil)))), Chg.refl _ _ _, rfl, by omega, by omega, fun i hi => by omega⟩) ?_
  rintro mm aa wl8 ⟨k, c, hAwl8, cwl8, hm, hk, hc, hzz⟩
  refine (show cw Tryd.prog 27 _ _ _ wl8 from ?_) aa hAwl8
  clear hAwl8
  have zwl8 := cwl8.size
  refine sx_seq fun K9 k9 => ?_
  refine sx_seq fun K10 k10 => sx_region ?_
  refine sm rfl rfl rfl rfl ?_
  refine sm rfl rfl rfl rfl ?_
  have f11 := hvt0.ext cwl8
  refine sx_pure rfl rfl rfl (px_len rfl Tryd.underlying64 f11.sv) ?_
  refine sx_pure rfl rfl rfl (px_lt rfl rfl) ?_
  refine wl_nil (q_n (k10 _ _ ?_))
  refine sx_condP rfl (fun h589 => ?_) (fun h589 => ?_)
  ·
   have hbk := hb k (by omega)
   refine sx_skip ?_
   refine q_n (k9 _ _ ?_)
   refine sx_seq fun K12 k12 => ?_
   refine sx_block ?_
   refine sx_seq fun K13 k13 => sx_region ?_
   refine sm rfl rfl rfl rfl ?_
   refine sm rfl rfl rfl rfl ?_
   refine sx_pure rfl rfl rfl (px_indexK (j := k) rfl rfl (by omega) Tryd.underlying64 Tryd.sizeOf48 f11.sv (by omega)) ?_
   refine sx_pure rfl rfl rfl (px_load rfl (f11.sv.loadA (rt_look f11.len (by omega)) Tryd.isAgg48 Tryd.sizeOf48)) ?_
   refine sm rfl rfl rfl rfl ?_
   refine sx_call rfl rfl Tryd.call29 (c_szRate (f11.nest k (by omega)) (hbk.1) (hbk.2.1) (hbk.2.2) (by omega)) (fun v14 w14 p14 => ?_)
   obtain ⟨r14, rfl, hr14, c14⟩ := p14
   have zw14 := c14.size
   refine sa rfl rfl rfl rfl ?_
   refine wl_nil (q_n (k13 _ _ ?_))
   refine sx_seq fun K15 k15 => sx_region ?_
   refine sm rfl rfl rfl rfl ?_
   refine sx_pure rfl rfl rfl (px_lt rfl rfl) ?_
   refine wl_nil (q_n (k15 _ _ ?_))
   refine sx_sub (Sub.cons (t := 0) rfl (.cons (t := 1) rfl (.cons (t := 5) rfl (.cons (t := 25) rfl (.nil))))) ?_
   refine sx_condP rfl (fun h591 => ?_) (fun h591 => ?_)
   ·
    refine sx_seq fun K16 k16 => sx_region ?_
    refine sa rfl rfl rfl rfl ?_
    refine wl_nil (q_n (k16 _ _ ?_))
    refine sx_retc ?_
    refine q_br (q_r (q_r (q_br (q_r (sx_ret1 Tryd.results92 rfl ?_)))))
    exact ⟨_, rfl, by omega, fun h => by omega, (cwl8.t c14)⟩
   ·
    refine sx_skip ?_
    refine q_bn (q_n (k12 _ _ ?_))
    refine sx_region ?_
    refine sm rfl rfl rfl rfl ?_
    refine sx_pure rfl rfl rfl (px_add rfl rfl (by omega)) ?_
    refine sa rfl rfl rfl rfl ?_
    refine wl_nil ?_
    exact fun a ha => ⟨_, by omega, (k + 1), r14, ha.sub (Sub.cons (t := 0) rfl (.cons (t := 1) (look_int (t := 1) rfl (by first | omega | simp)) (.cons (t := 5) (look_int (t := 5) rfl (by first | omega | simp)) (.nil)))), (cwl8.t c14), rfl, by omega, by omega, sz_next hzz (by omega)⟩
  ·
   refine sx_exit ?_
   refine q_e (q_e (q_bx (q_n (k6 _ _ ?_))))
   refine sx_seq fun K17 k17 => sx_region ?_
   refine sm rfl rfl rfl rfl ?_
   refine sa rfl rfl rfl rfl ?_
   refine wl_nil (q_n (k17 _ _ ?_))
   refine sx_retc ?_
   refine sx_ret1 Tryd.results92 rfl ?_
   have ek : k = ts.length := by omega
   subst ek
   exact ⟨_, rfl, by omega, fun _ => hzz, cwl8⟩

theorem c_szRates {w : World} {pv : ByteArray} {vt : Value} {lvt uvt : Nat} {ts : List Rt} {vvt : List Value} {n : Int} (hvt : RtS w lvt uvt vt ts vvt) (bpv : pv.size ≤ 9223372036854775807) (bts : ts.length ≤ 9223372036854775807) (hb : ∀ i, i < ts.length → RB (ts.getD i rt0)) (hn : 0 ≤ n ∧ n ≤ 1048576) :
  Ret Tryd.prog 40 [.agg #[.string pv, vt], .int .i64 n] w fun v w' => ∃ r, v = .int .i64 (r) ∧ (r < 0 ∨ (0 ≤ r ∧ r ≤ n - (ts).length)) ∧ (0 ≤ r → ∀ i, i < (ts).length → ((ts).getD i rt0).2.2.2.1.length ≤ 1048576) ∧ Chg 0 0 w w' := by
 have hvt0 := hvt.fit
 refine sx_enter Tryd.func40 rfl Tryd.ntmps40 (Nat.le_of_ble_eq_true rfl) ?_
 refine sx_seq fun K1 k1 => sx_region ?_
 refine sx_box [.string pv, vt] rfl rfl rfl (fun b2 w3 eb2 sb2 fb2 cb2 => ?_)
 have zw3 := cb2.size
 refine sa rfl rfl rfl rfl ?_
 refine wl_nil (q_n (k1 _ _ ?_))
 refine sx_seq fun K4 k4 => sx_region ?_
 refine sm rfl rfl rfl rfl ?_
 refine sx_pure rfl rfl rfl (px_field rfl xfld66x0) ?_
 refine sx_pure rfl rfl rfl (px_load rfl (fb2.load1 rfl Tryd.isAgg9)) ?_
 refine sx_pure rfl rfl rfl (px_lenS rfl Tryd.underlying9) ?_
 refine sx_pure rfl rfl rfl (px_sub rfl rfl (by omega)) ?_
 refine sa rfl rfl rfl rfl ?_
 refine wl_nil (q_n (k4 _ _ ?_))
 refine sx_seq fun K5 k5 => ?_
 refine sx_seq fun K6 k6 => sx_region ?_
 refine sm rfl rfl rfl rfl ?_
 refine sx_pure rfl rfl rfl (px_lt rfl rfl) ?_
 refine wl_nil (q_n (k6 _ _ ?_))
 refine sx_condP rfl (fun h600 => ?_) (fun h600 => ?_)
 ·
  refine sx_seq fun K7 k7 => sx_region ?_
  refine sa rfl rfl rfl rfl ?_
  refine wl_nil (q_n (k7 _ _ ?_))
  refine sx_retc ?_
  refine q_r (sx_ret1 Tryd.results40 rfl ?_)
  exact ⟨_, rfl, by omega, fun h => by omega, cb2⟩
 ·
  refine sx_skip ?_
  refine q_n (k5 _ _ ?_)
  refine sx_seq fun K8 k8 => sx_region ?_
  refine sx_pure rfl rfl rfl (px_field rfl xfld66x1) ?_
  refine sx_pure rfl rfl rfl (px_load rfl (fb2.load1 rfl Tryd.isAgg64)) ?_
  refine sm rfl rfl rfl rfl ?_
  have f9 := hvt0.ext cb2
  refine sx_call rfl rfl Tryd.call92 (c_szRateS f9 (by omega) (by assumption) (by omega)) (fun v10 w10 p10 => ?_)
  obtain ⟨r10, rfl, hr10, hzz10, c10⟩ := p10
  have zw10 := c10.size
  have hzs := hzz10
  refine sa rfl rfl rfl rfl ?_
  refine wl_nil (q_n (k8 _ _ ?_))
  refine sx_sub (Sub.cons (t := 1) rfl (.cons (t := 4) rfl (.nil))) ?_
  refine sx_seq fun K11 k11 => ?_
  refine sx_seq fun K12 k12 => sx_region ?_
  refine sm rfl rfl rfl rfl ?_
  refine sx_pure rfl rfl rfl (px_lt rfl rfl) ?_
  refine wl_nil (q_n (k12 _ _ ?_))
  refine sx_condP rfl (fun h604 => ?_) (fun h604 => ?_)
  ·
   refine sx_seq fun K13 k13 => sx_region ?_
   refine sa rfl rfl rfl rfl ?_
   refine wl_nil (q_n (k13 _ _ ?_))
   refine sx_retc ?_
   refine q_r (sx_ret1 Tryd.results40 rfl ?_)
   exact ⟨_, rfl, by omega, fun h => by omega, (cb2.t c10)⟩
  ·
   refine sx_skip ?_
   refine q_n (k11 _ _ ?_)
   refine sx_seq fun K14 k14 => sx_region ?_
   refine sm rfl rfl rfl rfl ?_
   refine sa rfl rfl rfl rfl ?_
   refine wl_nil (q_n (k14 _ _ ?_))
   refine sx_retc ?_
   refine sx_ret1 Tryd.results40 rfl ?_
   exact ⟨_, rfl, by omega, fun h => hzs h, (cb2.t c10)⟩

theorem c_toRateS {w : World} {vt : Value} {lvt uvt : Nat} {ts : List Rt} {vvt : List Value} (hvt : RtS w lvt uvt vt ts vvt) (h63 : ts.length ≤ 1048576) (hzz : ∀ i, i < ts.length → (ts.getD i rt0).2.2.2.1.length ≤ 1048576) :
  Ret Tryd.prog 94 [vt] w fun v w' => ∃ s us, v = s ∧ RtS w' (w.heap.size) (w'.heap.size) s (ts) us ∧ Chg 0 0 w w' := by
 have hvt0 := hvt.fit
 refine sx_enter Tryd.func94 rfl Tryd.ntmps94 (Nat.le_of_ble_eq_true rfl) ?_
 refine sx_seq fun K1 k1 => sx_region ?_
 refine sa rfl rfl rfl rfl ?_
 refine wl_nil (q_n (k1 _ _ ?_))
 refine sx_seq fun K2 k2 => sx_region ?_
 refine sm rfl rfl rfl rfl ?_
 refine sx_pure rfl rfl rfl (px_len rfl Tryd.underlying64 hvt0.sv) ?_
 refine sx_make (c := (ts).length) rfl xelt69 (rfl) (rfl) (by omega) (by unfold maxLen; omega) (fun s3 ws3 fs3 cs3 ls3 => ?_)
 have zws3 := cs3.size
 refine sa rfl rfl rfl rfl ?_
 refine wl_nil (q_n (k2 _ _ ?_))
 refine sx_seq fun K4 k4 => ?_
 refine sx_seq fun K5 k5 => sx_region ?_
 refine sa rfl rfl rfl rfl ?_
 refine wl_nil (q_n (k5 _ _ ?_))
 refine sx_block ?_
 obtain ⟨xs0, hxs0⟩ : ∃ xs, Own ws3 w.heap.size ws3.heap.size s3 54 ts.length 5 xs := ⟨_, fs3⟩
 refine sx_loop (fun mm aa w' => ∃ (k : Nat) (us : List Value) (xs : List Value), Agr 23 [(0, vt), (3, s3), (4, .int .i64 ↑k)] aa ∧ Chg w.heap.size ws3.heap.size ws3 w' ∧ Own w' w.heap.size ws3.heap.size s3 54 ts.length 5 (xs) ∧ (mm = ts.length - k) ∧ (k ≤ ts.length) ∧ (us.length = k) ∧ (xs.take (k * 5) = rtCells (ts.take k) us) ∧ (∀ i, i < k → Sl w' ws3.heap.size w'.heap.size (us.getD i vz) (ts.getD i rt0).2.2.2.1)) (_) (fun a ha => ⟨0, [], xs0, ha.sub (Sub.cons (t := 0) rfl (.cons (t := 3) rfl (.cons (t := 4) (look_int (t := 4) rfl (by first | omega | simp)) (.nil)))), Chg.refl _ _ _, hxs0, rfl, by omega, rfl, by simp [rtCells], fun i hi => by omega⟩) ?_
 rintro mm aa wl7 ⟨k, us, xs, hAwl7, cwl7, hs_s3, hm, hk, hul, hxt, hne⟩
 refine (show cw Tryd.prog 23 _ _ _ wl7 from ?_) aa hAwl7
 clear hAwl7
 have zwl7 := cwl7.size
 refine sx_seq fun K8 k8 => ?_
 refine sx_seq fun K9 k9 => sx_region ?_
 refine sm rfl rfl rfl rfl ?_
 refine sm rfl rfl rfl rfl ?_
 have f10 := hvt0.ext cs3
 have f11 := f10.chg cwl7 (by omega)
 refine sx_pure rfl rfl rfl (px_len rfl Tryd.underlying64 f11.sv) ?_
 refine sx_pure rfl rfl rfl (px_lt rfl rfl) ?_
 refine wl_nil (q_n (k9 _ _ ?_))
 refine sx_condP rfl (fun h571 => ?_) (fun h571 => ?_)
 ·
  refine sx_skip ?_
  refine q_n (k8 _ _ ?_)
  refine sx_seq fun K12 k12 => ?_
  refine sx_block ?_
  have hxl := (hs_s3).1
  refine sx_region ?_
  refine sm rfl rfl rfl rfl ?_
  refine sm rfl rfl rfl rfl ?_
  refine sm rfl rfl rfl rfl ?_
  refine sm rfl rfl rfl rfl ?_
  refine sx_pure rfl rfl rfl (px_indexK (j := k) rfl rfl (by omega) Tryd.underlying64 Tryd.sizeOf48 f11.sv (by omega)) ?_
  refine sx_pure rfl rfl rfl (px_load rfl (f11.sv.loadA (rt_look f11.len (by omega)) Tryd.isAgg48 Tryd.sizeOf48)) ?_
  refine sx_call rfl rfl Tryd.call31 (c_toRate (f11.nest k (by omega)) (hzz k (by omega))) (fun v13 w13 p13 => ?_)
  obtain ⟨s13, rfl, os_13, c13⟩ := p13
  have zw13 := c13.size
  have f14 := hs_s3.ext c13
  refine sx_pure rfl rfl rfl (px_indexK (j := k) rfl rfl (by omega) Tryd.underlying69 Tryd.sizeOf54 f14.sv (by omega)) ?_
  refine sx_storeOA (vs := [.string ((ts.getD k rt0).1), .string ((ts.getD k rt0).2.1), .bool ((ts.getD k rt0).2.2.1), s13, .int .i64 ((ts.getD k rt0).2.2.2.2)]) rfl rfl f14 rfl (by simp) (by simp only [List.length_cons, List.length_nil]; omega) Tryd.sizeOf54 (one_cons rfl (one_cons rfl (one_cons rfl (one_cons os_13.one (one_cons rfl one_nil))))) (fun w15 sw15 fw15 cw15 => ?_)
  have zw15 := cw15.size
  refine wl_nil ?_
  refine q_bn (q_n (k12 _ _ ?_))
  refine sx_sub (Sub.cons (t := 0) rfl (.cons (t := 3) rfl (.cons (t := 4) rfl (.nil)))) ?_
  refine sx_region ?_
  refine sm rfl rfl rfl rfl ?_
  refine sx_pure rfl rfl rfl (px_add rfl rfl (by omega)) ?_
  refine sa rfl rfl rfl rfl ?_
  refine wl_nil ?_
  have q16 := Chg.step (l := w.heap.size) (h := ws3.heap.size) (Chg.zero (l := w.heap.size) (h := ws3.heap.size) c13) cw15 (by omega)
  have f17 := os_13.chg cw15 (by omega)
  have q18 := Chg.step (l := w.heap.size) (h := ws3.heap.size) cwl7 c13 (by omega)
  have q19 := Chg.step (l := w.heap.size) (h := ws3.heap.size) q18 cw15 (by omega)
  exact fun a ha => ⟨_, by omega, (k + 1), (us ++ [s13]), ((xs).take (k * 5) ++ [.string ((ts.getD k rt0).1), .string ((ts.getD k rt0).2.1), .bool ((ts.getD k rt0).2.2.1), s13, .int .i64 ((ts.getD k rt0).2.2.2.2)] ++ (xs).drop (k * 5 + 5)), ha.sub (Sub.cons (t := 0) rfl (.cons (t := 3) rfl (.cons (t := 4) (look_int (t := 4) rfl (by first | omega | simp)) (.nil)))), q19, (fw15.mono (by omega) (by omega)), rfl, by omega, by rw [List.length_append, hul]; rfl, rt_put (by omega) hul (by omega) hxt rfl, nest_next hul hne q16 (by omega) ((Own.sv f17).mono (by omega) (by omega))⟩
 ·
  refine sx_exit ?_
  refine q_e (q_e (q_bx (q_n (k4 _ _ ?_))))
  refine sx_seq fun K20 k20 => sx_region ?_
  refine sm rfl rfl rfl rfl ?_
  refine sa rfl rfl rfl rfl ?_
  refine wl_nil (q_n (k20 _ _ ?_))
  refine sx_retc ?_
  refine sx_ret1 Tryd.results94 rfl ?_
  have ek : k = ts.length := by omega
  subst ek
  have hO := hs_s3
  have q21 := Chg.step (l := 0) (h := 0) (Chg.zero (l := 0) (h := 0) cs3) cwl7 (by omega)
  exact ⟨_, us, rfl, rt_copied hO hul hxt hne (by omega) (by omega) (by omega), q21⟩

theorem c_toRates {w : World} {pv : ByteArray} {vt : Value} {lvt uvt : Nat} {ts : List Rt} {vvt : List Value} (hvt : RtS w lvt uvt vt ts vvt) (h63 : ts.length ≤ 1048576) (hzz : ∀ i, i < ts.length → (ts.getD i rt0).2.2.2.1.length ≤ 1048576) :
  Ret Tryd.prog 42 [.agg #[.string pv, vt]] w fun v w' => ∃ s us, v = .agg #[.string (pv), s] ∧ RtS w' (w.heap.size) (w'.heap.size) s (ts) us ∧ Chg 0 0 w w' := by
 have hvt0 := hvt.fit
 refine sx_enter Tryd.func42 rfl Tryd.ntmps42 (Nat.le_of_ble_eq_true rfl) ?_
 refine sx_seq fun K1 k1 => sx_region ?_
 refine sx_box [.string pv, vt] rfl rfl rfl (fun b2 w3 eb2 sb2 fb2 cb2 => ?_)
 have zw3 := cb2.size
 refine sx_alloc [.string (⟨#[]⟩), (.slice none 0 0)] rfl Tryd.zeroValue71 rfl (fun b4 w5 eb4 sb4 fb4 cb4 => ?_)
 have zw5 := cb4.size
 refine wl_nil (q_n (k1 _ _ ?_))
 refine sx_seq fun K6 k6 => sx_region ?_
 refine sx_alloc [.string (⟨#[]⟩), (.slice none 0 0)] rfl Tryd.zeroValue71 rfl (fun b7 w8 eb7 sb7 fb7 cb7 => ?_)
 have zw8 := cb7.size
 refine wl_nil (q_n (k6 _ _ ?_))
 refine sx_seq fun K9 k9 => sx_region ?_
 refine sx_pure rfl rfl rfl (px_field rfl xfld66x0) ?_
 have f10 := fb2.ext cb4
 have f11 := f10.ext cb7
 refine sx_pure rfl rfl rfl (px_load rfl (f11.load1 rfl Tryd.isAgg9)) ?_
 refine sx_pure rfl rfl rfl (px_field rfl xfld71x0) ?_
 refine sx_store (vs := [.string pv]) rfl rfl fb7 rfl Tryd.sizeOf9 (Nat.le_of_ble_eq_true rfl) (one_cons rfl one_nil) (fun w12 sw12 fw12 cw12 => ?_)
 have zw12 := cw12.size
 have gw12 : Blk w12 b7 [.string pv, (.slice none 0 0)] 71 := fw12
 refine wl_nil (q_n (k9 _ _ ?_))
 refine sx_seq fun K13 k13 => sx_region ?_
 refine sx_pure rfl rfl rfl (px_field rfl xfld66x1) ?_
 have f14 := f11.chg cw12 (by omega)
 refine sx_pure rfl rfl rfl (px_load rfl (f14.load1 rfl Tryd.isAgg64)) ?_
 have f15 := hvt0.ext cb2
 have f16 := f15.ext cb4
 have f17 := f16.ext cb7
 have f18 := f17.chg cw12 (by omega)
 refine sx_call rfl rfl Tryd.call94 (c_toRateS f18 (by omega) (by assumption)) (fun v19 w19 p19 => ?_)
 obtain ⟨s19, us19, rfl, os_19, c19⟩ := p19
 have zw19 := c19.size
 refine sx_pure rfl rfl rfl (px_field rfl xfld71x1) ?_
 have f21 := gw12.ext c19
 refine sx_store (vs := [v19]) rfl rfl f21 (cells_one os_19.one) Tryd.sizeOf69 (Nat.le_of_ble_eq_true rfl) (one_cons os_19.one one_nil) (fun w20 sw20 fw20 cw20 => ?_)
 have zw20 := cw20.size
 have gw20 : Blk w20 b7 [.string pv, v19] 71 := fw20
 refine wl_nil (q_n (k13 _ _ ?_))
 refine sx_seq fun K22 k22 => sx_region ?_
 refine sx_pure rfl rfl rfl (px_load rfl (gw20.loadA (vs := [.string pv, v19]) (look_lit rfl) Tryd.isAgg71 Tryd.sizeOf71)) ?_
 have f24 := fb4.ext cb7
 have f25 := f24.chg cw12 (by omega)
 have f26 := f25.ext c19
 have f27 := f26.chg cw20 (by omega)
 have f28 := os_19.chg cw20 (by omega)
 refine sx_store (vs := [.string pv, v19]) rfl rfl f27 rfl Tryd.sizeOf71 (Nat.le_of_ble_eq_true rfl) (one_cons rfl (one_cons f28.one one_nil)) (fun w23 sw23 fw23 cw23 => ?_)
 have zw23 := cw23.size
 have gw23 : Blk w23 b4 [.string pv, v19] 71 := fw23
 refine wl_nil (q_n (k22 _ _ ?_))
 refine sx_retc ?_
 refine sx_ret1 Tryd.results42 ⟨_, rfl, gw23.loadA (vs := [.string pv, v19]) (look_lit rfl) Tryd.isAgg71 Tryd.sizeOf71⟩ ?_
 have f29 := f28.chg cw23 (by omega)
 have q30 := Chg.step (l := 0) (h := 0) (Chg.zero (l := 0) (h := 0) ((cb2.t cb4).t cb7)) cw12 (by omega)
 have q31 := Chg.step (l := 0) (h := 0) q30 c19 (by omega)
 have q32 := Chg.step (l := 0) (h := 0) q31 cw20 (by omega)
 have q33 := Chg.step (l := 0) (h := 0) q32 cw23 (by omega)
 exact ⟨_, _, rfl, (f29).mono (by omega) (by omega), q33⟩

theorem c_l10At {w : World} {vt : Value} {lvt uvt : Nat} {ts : List Rt} {vvt : List Value} {a : ByteArray} {b : ByteArray} (hvt : RtS w lvt uvt vt ts vvt) (h63 : ts.length ≤ 4611686018427387904) :
  Ret Tryd.prog 93 [vt, .string a, .string b] w fun v w' => v = .int .i64 (atI ts a b) ∧ Chg 0 0 w w' := by
 have hvt0 := hvt.fit
 refine sx_enter Tryd.func93 rfl Tryd.ntmps93 (Nat.le_of_ble_eq_true rfl) ?_
 refine sx_seq fun K1 k1 => sx_region ?_
 refine sa rfl rfl rfl rfl ?_
 refine wl_nil (q_n (k1 _ _ ?_))
 refine sx_seq fun K2 k2 => ?_
 refine sx_seq fun K3 k3 => sx_region ?_
 refine sm rfl rfl rfl rfl ?_
 refine sx_pure rfl rfl rfl (px_len rfl Tryd.underlying69 hvt0.sv) ?_
 refine sm rfl rfl rfl rfl ?_
 refine wl_nil (q_n (k3 _ _ ?_))
 refine sx_block ?_
 refine sx_loop (fun mm aa w' => ∃ (k : Nat), Agr 28 [(1, .string a), (2, .string b), (9, vt), (10, .int .i64 (↑(ts).length)), (11, .int .i64 ↑k)] aa ∧ Chg 0 0 w w' ∧ (mm = ts.length - k) ∧ (k ≤ ts.length) ∧ (∀ i, i < k → ¬ ((ts.getD i rt0).1 = a ∧ (ts.getD i rt0).2.1 = b))) (_) (fun a ha => ⟨0, ha.sub (Sub.cons (t := 1) rfl (.cons (t := 2) rfl (.cons (t := 9) rfl (.cons (t := 10) (look_int (t := 10) rfl (by first | omega | simp)) (.cons (t := 11) (look_int (t := 11) rfl (by first | omega | simp)) (.nil)))))), Chg.refl _ _ _, rfl, by omega, fun i hi => by omega⟩) ?_
 rintro mm aa wl4 ⟨k, hAwl4, cwl4, hm, hk, hn⟩
 refine (show cw Tryd.prog 28 _ _ _ wl4 from ?_) aa hAwl4
 clear hAwl4
 have zwl4 := cwl4.size
 refine sx_seq fun K5 k5 => sx_region ?_
 refine sx_pure rfl rfl rfl (px_lt rfl rfl) ?_
 refine wl_nil (q_n (k5 _ _ ?_))
 refine sx_seq fun K6 k6 => ?_
 refine sx_condP rfl (fun h11 => ?_) (fun h11 => ?_)
 ·
  refine sx_skip ?_
  refine q_n (k6 _ _ ?_)
  refine sx_seq fun K7 k7 => ?_
  refine sx_block ?_
  refine sx_seq fun K8 k8 => sx_region ?_
  refine sm rfl rfl rfl rfl ?_
  have f9 := hvt0.ext cwl4
  refine sx_pure rfl rfl rfl (px_indexK (j := k) rfl rfl (by omega) Tryd.underlying69 Tryd.sizeOf54 f9.sv (by omega)) ?_
  refine sx_pure rfl rfl rfl (px_load rfl (f9.sv.loadA (rt_look f9.len (by omega)) Tryd.isAgg54 Tryd.sizeOf54)) ?_
  refine sx_alloc [.string (⟨#[]⟩), .string (⟨#[]⟩), .bool false, (.slice none 0 0), .int .i64 0] rfl Tryd.zeroValue54 rfl (fun b10 w11 eb10 sb10 fb10 cb10 => ?_)
  have zw11 := cb10.size
  refine sa rfl rfl rfl rfl ?_
  have f13 := (f9.nest k (by omega)).ext cb10
  refine sx_store (vs := [.string ((ts.getD k rt0).1), .string ((ts.getD k rt0).2.1), .bool ((ts.getD k rt0).2.2.1), (vvt.getD k vz), .int .i64 ((ts.getD k rt0).2.2.2.2)]) rfl rfl fb10 rfl Tryd.sizeOf54 (Nat.le_of_ble_eq_true rfl) (one_cons rfl (one_cons rfl (one_cons rfl (one_cons f13.one (one_cons rfl one_nil))))) (fun w12 sw12 fw12 cw12 => ?_)
  have zw12 := cw12.size
  have gw12 : Blk w12 b10 [.string ((ts.getD k rt0).1), .string ((ts.getD k rt0).2.1), .bool ((ts.getD k rt0).2.2.1), (vvt.getD k vz), .int .i64 ((ts.getD k rt0).2.2.2.2)] 54 := fw12
  refine wl_nil (q_n (k8 _ _ ?_))
  refine sx_seq fun K14 k14 => sx_region ?_
  refine sx_pure rfl rfl rfl (px_field rfl xfld54x0) ?_
  refine sx_pure rfl rfl rfl (px_load rfl (gw12.load1 rfl Tryd.isAgg9)) ?_
  refine sm rfl rfl rfl rfl ?_
  refine sx_pure rfl rfl rfl (px_eqS rfl rfl) ?_
  refine sm rfl rfl rfl rfl ?_
  refine sx_tmpP (t := 20) rfl (fun h12 => ?_) (fun h12 => ?_)
  ·
   refine sx_guardT rfl rfl rfl ?_
   refine sx_pure rfl rfl rfl (px_field rfl xfld54x1) ?_
   refine sx_guardT rfl rfl rfl ?_
   refine sx_pure rfl rfl rfl (px_load rfl (gw12.load1 rfl Tryd.isAgg9)) ?_
   refine sx_guardT rfl rfl rfl ?_
   refine sm rfl rfl rfl rfl ?_
   refine sx_guardT rfl rfl rfl ?_
   refine sx_pure rfl rfl rfl (px_eqS rfl rfl) ?_
   refine sx_pure rfl rfl rfl (px_pick rfl rfl) ?_
   refine wl_nil (q_n (k14 _ _ ?_))
   refine sx_sub (Sub.cons (t := 1) rfl (.cons (t := 2) rfl (.cons (t := 7) rfl (.cons (t := 9) rfl (.cons (t := 10) rfl (.cons (t := 11) rfl (.cons (t := 25) rfl (.nil)))))))) ?_
   refine sx_condP rfl (fun h12x1 => ?_) (fun h12x1 => ?_)
   ·
    refine sx_seq fun K15 k15 => sx_region ?_
    refine sm rfl rfl rfl rfl ?_
    refine sa rfl rfl rfl rfl ?_
    refine wl_nil (q_n (k15 _ _ ?_))
    refine sx_retc ?_
    refine q_br (q_r (q_r (q_br (q_r (sx_ret1 Tryd.results93 rfl ?_)))))
    have q16 := Chg.step (l := 0) (h := 0) (Chg.zero (l := 0) (h := 0) (cwl4.t cb10)) cw12 (by omega)
    exact ⟨(by rw [atI_some (by omega) hn ⟨h12, h12x1⟩]), q16⟩
   ·
    refine sx_skip ?_
    refine q_bn (q_n (k7 _ _ ?_))
    refine sx_region ?_
    refine sx_pure rfl rfl rfl (px_add rfl rfl (by omega)) ?_
    refine sm rfl rfl rfl rfl ?_
    refine wl_nil ?_
    have q17 := Chg.step (l := 0) (h := 0) (Chg.zero (l := 0) (h := 0) (cwl4.t cb10)) cw12 (by omega)
    exact fun a ha => ⟨_, by omega, (k + 1), ha.sub (Sub.cons (t := 1) rfl (.cons (t := 2) rfl (.cons (t := 9) rfl (.cons (t := 10) rfl (.cons (t := 11) (look_int (t := 11) rfl (by first | omega | simp)) (.nil)))))), q17, rfl, by omega, upto_next hn (fun hh => by first | exact h12 hh.1 | exact h12x1 hh.2)⟩
  ·
   refine sx_guardF rfl rfl rfl rfl rfl rfl ?_
   refine sx_guardF rfl rfl rfl rfl rfl rfl ?_
   refine sx_guardF rfl rfl rfl rfl rfl rfl ?_
   refine sx_guardF rfl rfl rfl rfl rfl rfl ?_
   refine sx_pure rfl rfl rfl (px_pick rfl rfl) ?_
   refine wl_nil (q_n (k14 _ _ ?_))
   refine sx_sub (Sub.cons (t := 1) rfl (.cons (t := 2) rfl (.cons (t := 7) rfl (.cons (t := 9) rfl (.cons (t := 10) rfl (.cons (t := 11) rfl (.cons (t := 25) rfl (.nil)))))))) ?_
   refine sx_condF rfl ?_
   refine sx_skip ?_
   refine q_bn (q_n (k7 _ _ ?_))
   refine sx_region ?_
   refine sx_pure rfl rfl rfl (px_add rfl rfl (by omega)) ?_
   refine sm rfl rfl rfl rfl ?_
   refine wl_nil ?_
   have q18 := Chg.step (l := 0) (h := 0) (Chg.zero (l := 0) (h := 0) (cwl4.t cb10)) cw12 (by omega)
   exact fun a ha => ⟨_, by omega, (k + 1), ha.sub (Sub.cons (t := 1) rfl (.cons (t := 2) rfl (.cons (t := 9) rfl (.cons (t := 10) rfl (.cons (t := 11) (look_int (t := 11) rfl (by first | omega | simp)) (.nil)))))), q18, rfl, by omega, upto_next hn (fun hh => by first | exact h12 hh.1 | exact h12x1 hh.2)⟩
 ·
  refine sx_exit ?_
  refine q_e (q_e (q_bx (q_n (k2 _ _ ?_))))
  refine sx_seq fun K19 k19 => sx_region ?_
  refine sa rfl rfl rfl rfl ?_
  refine wl_nil (q_n (k19 _ _ ?_))
  refine sx_retc ?_
  refine sx_ret1 Tryd.results93 rfl ?_
  exact ⟨(by rw [atI_none (fun i hi => hn i (by omega))]), cwl4⟩

theorem c_sRatesOk {w : World} {pv : ByteArray} {vt : Value} {lvt uvt : Nat} {ts : List Rt} {vvt : List Value} (hvt : RtS w lvt uvt vt ts vvt) (h63 : ts.length ≤ 4611686018427387904) (hz : ∀ i, i < ts.length → (ts.getD i rt0).2.2.2.1.length ≤ 4611686018427387904) :
  Ret Tryd.prog 41 [.agg #[.string pv, vt]] w fun v w' => v = .bool (decide (RsOk pv ts)) ∧ Chg 0 0 w w' := by
 have hvt0 := hvt.fit
 refine sx_enter Tryd.func41 rfl Tryd.ntmps41 (Nat.le_of_ble_eq_true rfl) ?_
 refine sx_seq fun K1 k1 => sx_region ?_
 refine sx_box [.string pv, vt] rfl rfl rfl (fun b2 w3 eb2 sb2 fb2 cb2 => ?_)
 have zw3 := cb2.size
 refine sa rfl rfl rfl rfl ?_
 refine wl_nil (q_n (k1 _ _ ?_))
 refine sx_seq fun K4 k4 => ?_
 refine sx_seq fun K5 k5 => sx_region ?_
 refine sx_pure rfl rfl rfl (px_field rfl xfld71x0) ?_
 refine sx_pure rfl rfl rfl (px_load rfl (fb2.load1 rfl Tryd.isAgg9)) ?_
 refine sx_call rfl rfl Tryd.call58 (c_sCurKnown) (fun v6 w6 p6 => ?_)
 obtain ⟨rfl, c6⟩ := p6
 have zw6 := c6.size
 refine sx_pure rfl rfl rfl (px_notP rfl) ?_
 refine sm rfl rfl rfl rfl ?_
 refine sx_tmpP (t := 9) rfl (fun h21 => ?_) (fun h21 => ?_)
 ·
  refine sx_guardF rfl rfl rfl rfl rfl rfl ?_
  refine sx_guardF rfl rfl rfl rfl rfl rfl ?_
  refine sx_guardF rfl rfl rfl rfl rfl rfl ?_
  refine sx_guardF rfl rfl rfl rfl rfl rfl ?_
  refine sx_pure rfl rfl rfl (px_pick rfl rfl) ?_
  refine wl_nil (q_n (k5 _ _ ?_))
  refine sx_condT rfl ?_
  refine sx_seq fun K7 k7 => sx_region ?_
  refine sa rfl rfl rfl rfl ?_
  refine wl_nil (q_n (k7 _ _ ?_))
  refine sx_retc ?_
  refine q_r (sx_ret1 Tryd.results41 rfl ?_)
  exact ⟨bFalse (fun h => by first | exact absurd h.1 (by assumption) | (have := h.2.1; omega)), (cb2.t c6)⟩
 ·
  refine sx_guardT rfl rfl rfl ?_
  refine sx_pure rfl rfl rfl (px_field rfl xfld71x1) ?_
  refine sx_guardT rfl rfl rfl ?_
  have f8 := fb2.ext c6
  refine sx_pure rfl rfl rfl (px_load rfl (f8.load1 rfl Tryd.isAgg69)) ?_
  refine sx_guardT rfl rfl rfl ?_
  have f9 := hvt0.ext cb2
  have f10 := f9.ext c6
  refine sx_pure rfl rfl rfl (px_len rfl Tryd.underlying69 f10.sv) ?_
  refine sx_guardT rfl rfl rfl ?_
  refine sx_pure rfl rfl rfl (px_gt rfl rfl) ?_
  refine sx_pure rfl rfl rfl (px_pick rfl rfl) ?_
  refine wl_nil (q_n (k5 _ _ ?_))
  refine sx_condP rfl (fun h21x1 => ?_) (fun h21x1 => ?_)
  ·
   refine sx_seq fun K11 k11 => sx_region ?_
   refine sa rfl rfl rfl rfl ?_
   refine wl_nil (q_n (k11 _ _ ?_))
   refine sx_retc ?_
   refine q_r (sx_ret1 Tryd.results41 rfl ?_)
   exact ⟨bFalse (fun h => by first | exact absurd h.1 (by assumption) | (have := h.2.1; omega)), (cb2.t c6)⟩
  ·
   refine sx_skip ?_
   refine q_n (k4 _ _ ?_)
   refine sx_seq fun K12 k12 => ?_
   refine sx_seq fun K13 k13 => sx_region ?_
   refine sx_pure rfl rfl rfl (px_field rfl xfld71x1) ?_
   refine sx_pure rfl rfl rfl (px_load rfl (f8.load1 rfl Tryd.isAgg69)) ?_
   refine sx_pure rfl rfl rfl (px_len rfl Tryd.underlying69 f10.sv) ?_
   refine sm rfl rfl rfl rfl ?_
   refine wl_nil (q_n (k13 _ _ ?_))
   refine sx_sub (Sub.cons (t := 1) rfl (.cons (t := 2) rfl (.cons (t := 16) rfl (.cons (t := 17) rfl (.cons (t := 18) rfl (.nil)))))) ?_
   refine sx_block ?_
   refine sx_loop (fun mm aa w' => ∃ (k : Nat), Agr 38 [(1, .pointer (some ⟨b2, 0, none⟩)), (16, vt), (17, .int .i64 (↑(ts).length)), (18, .int .i64 ↑k)] aa ∧ Chg b2 (b2 + 1) w6 w' ∧ Blk w' b2 [.string pv, vt] 71 ∧ (mm = ts.length - k) ∧ (k ≤ ts.length) ∧ (AllTo ts k)) (_) (fun a ha => ⟨0, ha.sub (Sub.cons (t := 1) rfl (.cons (t := 16) rfl (.cons (t := 17) (look_int (t := 17) rfl (by first | omega | simp)) (.cons (t := 18) (look_int (t := 18) rfl (by first | omega | simp)) (.nil))))), Chg.refl _ _ _, f8, rfl, by omega, AllTo_zero ts⟩) ?_
   rintro mm aa wl14 ⟨k, hAwl14, cwl14, hb_b2, hm, hk, hall⟩
   refine (show cw Tryd.prog 38 _ _ _ wl14 from ?_) aa hAwl14
   clear hAwl14
   have zwl14 := cwl14.size
   refine sx_seq fun K15 k15 => sx_region ?_
   refine sx_pure rfl rfl rfl (px_lt rfl rfl) ?_
   refine wl_nil (q_n (k15 _ _ ?_))
   refine sx_seq fun K16 k16 => ?_
   refine sx_condP rfl (fun h24 => ?_) (fun h24 => ?_)
   ·
    refine sx_skip ?_
    refine q_n (k16 _ _ ?_)
    refine sx_seq fun K17 k17 => ?_
    refine sx_block ?_
    refine sx_seq fun K18 k18 => sx_region ?_
    refine sm rfl rfl rfl rfl ?_
    have f19 := f10.chg cwl14 (by omega)
    refine sx_pure rfl rfl rfl (px_indexK (j := k) rfl rfl (by omega) Tryd.underlying69 Tryd.sizeOf54 f19.sv (by omega)) ?_
    refine sx_pure rfl rfl rfl (px_load rfl (f19.sv.loadA (rt_look f19.len (by omega)) Tryd.isAgg54 Tryd.sizeOf54)) ?_
    refine sx_alloc [.string (⟨#[]⟩), .string (⟨#[]⟩), .bool false, (.slice none 0 0), .int .i64 0] rfl Tryd.zeroValue54 rfl (fun b20 w21 eb20 sb20 fb20 cb20 => ?_)
    have zw21 := cb20.size
    refine sa rfl rfl rfl rfl ?_
    have f23 := (f19.nest k (by omega)).ext cb20
    refine sx_store (vs := [.string ((ts.getD k rt0).1), .string ((ts.getD k rt0).2.1), .bool ((ts.getD k rt0).2.2.1), (vvt.getD k vz), .int .i64 ((ts.getD k rt0).2.2.2.2)]) rfl rfl fb20 rfl Tryd.sizeOf54 (Nat.le_of_ble_eq_true rfl) (one_cons rfl (one_cons rfl (one_cons rfl (one_cons f23.one (one_cons rfl one_nil))))) (fun w22 sw22 fw22 cw22 => ?_)
    have zw22 := cw22.size
    have gw22 : Blk w22 b20 [.string ((ts.getD k rt0).1), .string ((ts.getD k rt0).2.1), .bool ((ts.getD k rt0).2.2.1), (vvt.getD k vz), .int .i64 ((ts.getD k rt0).2.2.2.2)] 54 := fw22
    refine wl_nil (q_n (k18 _ _ ?_))
    refine sx_seq fun K24 k24 => sx_region ?_
    refine sx_pure rfl rfl rfl (px_load rfl (gw22.loadA (vs := [.string ((ts.getD k rt0).1), .string ((ts.getD k rt0).2.1), .bool ((ts.getD k rt0).2.2.1), (vvt.getD k vz), .int .i64 ((ts.getD k rt0).2.2.2.2)]) (look_lit rfl) Tryd.isAgg54 Tryd.sizeOf54)) ?_
    have f25 := f23.chg cw22 (by omega)
    refine sx_call rfl rfl Tryd.call30 (c_sRateOk f25 (hz k (by omega))) (fun v26 w26 p26 => ?_)
    obtain ⟨rfl, c26⟩ := p26
    have zw26 := c26.size
    refine sx_pure rfl rfl rfl (px_notP rfl) ?_
    refine sm rfl rfl rfl rfl ?_
    refine sx_tmpP (t := 26) rfl (fun h25 => ?_) (fun h25 => ?_)
    ·
     refine sx_guardF rfl rfl rfl rfl rfl rfl ?_
     refine sx_guardF rfl rfl rfl rfl rfl rfl ?_
     refine sx_guardF rfl rfl rfl rfl rfl rfl ?_
     refine sx_guardF rfl rfl rfl rfl rfl rfl ?_
     refine sx_guardF rfl rfl rfl rfl rfl rfl ?_
     refine sx_guardF rfl rfl rfl rfl rfl rfl ?_
     refine sx_guardF rfl rfl rfl rfl rfl rfl ?_
     refine sx_guardF rfl rfl rfl rfl rfl rfl ?_
     refine sx_guardF rfl rfl rfl rfl rfl rfl ?_
     refine sx_pure rfl rfl rfl (px_pick rfl rfl) ?_
     refine wl_nil (q_n (k24 _ _ ?_))
     refine sx_sub (Sub.cons (t := 1) rfl (.cons (t := 16) rfl (.cons (t := 17) rfl (.cons (t := 18) rfl (.cons (t := 36) rfl (.nil)))))) ?_
     refine sx_condT rfl ?_
     refine sx_seq fun K27 k27 => sx_region ?_
     refine sa rfl rfl rfl rfl ?_
     refine wl_nil (q_n (k27 _ _ ?_))
     refine sx_retc ?_
     refine q_br (q_r (q_r (q_br (q_r (sx_ret1 Tryd.results41 rfl ?_)))))
     have q28 := Chg.step (l := 0) (h := 0) (Chg.zero (l := 0) (h := 0) (cb2.t c6)) cwl14 (by omega)
     have q29 := Chg.step (l := 0) (h := 0) q28 cb20 (by omega)
     have q30 := Chg.step (l := 0) (h := 0) q29 cw22 (by omega)
     have q31 := Chg.step (l := 0) (h := 0) q30 c26 (by omega)
     exact ⟨(by first | exact bFalse (rsok_no_rate (k := k) (by omega) h25) | exact bFalse (rsok_no_key (k := k) (by omega) (fun hh => h25x1 ((atI_self (by omega)).2 hh)))), q31⟩
    ·
     refine sx_guardT rfl rfl rfl ?_
     refine sx_pure rfl rfl rfl (px_field rfl xfld71x1) ?_
     refine sx_guardT rfl rfl rfl ?_
     have f32 := hb_b2.ext cb20
     have f33 := f32.chg cw22 (by omega)
     have f34 := f33.ext c26
     refine sx_pure rfl rfl rfl (px_load rfl (f34.load1 rfl Tryd.isAgg69)) ?_
     refine sx_guardT rfl rfl rfl ?_
     refine sx_pure rfl rfl rfl (px_field rfl xfld54x0) ?_
     refine sx_guardT rfl rfl rfl ?_
     have f35 := gw22.ext c26
     refine sx_pure rfl rfl rfl (px_load rfl (f35.load1 rfl Tryd.isAgg9)) ?_
     refine sx_guardT rfl rfl rfl ?_
     refine sx_pure rfl rfl rfl (px_field rfl xfld54x1) ?_
     refine sx_guardT rfl rfl rfl ?_
     refine sx_pure rfl rfl rfl (px_load rfl (f35.load1 rfl Tryd.isAgg9)) ?_
     refine sx_guardT rfl rfl rfl ?_
     have f36 := f19.ext cb20
     have f37 := f36.chg cw22 (by omega)
     have f38 := f37.ext c26
     refine sx_call rfl rfl Tryd.call93 (c_l10At f38 (by omega)) (fun v39 w39 p39 => ?_)
     obtain ⟨rfl, c39⟩ := p39
     have zw39 := c39.size
     refine sx_guardT rfl rfl rfl ?_
     refine sm rfl rfl rfl rfl ?_
     refine sx_guardT rfl rfl rfl ?_
     refine sx_pure rfl rfl rfl (px_ne rfl rfl) ?_
     refine sx_pure rfl rfl rfl (px_pick rfl rfl) ?_
     refine wl_nil (q_n (k24 _ _ ?_))
     refine sx_sub (Sub.cons (t := 1) rfl (.cons (t := 16) rfl (.cons (t := 17) rfl (.cons (t := 18) rfl (.cons (t := 36) rfl (.nil)))))) ?_
     refine sx_condP rfl (fun h25x1 => ?_) (fun h25x1 => ?_)
     ·
      refine sx_seq fun K40 k40 => sx_region ?_
      refine sa rfl rfl rfl rfl ?_
      refine wl_nil (q_n (k40 _ _ ?_))
      refine sx_retc ?_
      refine q_br (q_r (q_r (q_br (q_r (sx_ret1 Tryd.results41 rfl ?_)))))
      have q41 := Chg.step (l := 0) (h := 0) (Chg.zero (l := 0) (h := 0) (cb2.t c6)) cwl14 (by omega)
      have q42 := Chg.step (l := 0) (h := 0) q41 cb20 (by omega)
      have q43 := Chg.step (l := 0) (h := 0) q42 cw22 (by omega)
      have q44 := Chg.step (l := 0) (h := 0) q43 (c26.t c39) (by omega)
      exact ⟨(by first | exact bFalse (rsok_no_rate (k := k) (by omega) h25) | exact bFalse (rsok_no_key (k := k) (by omega) (fun hh => h25x1 ((atI_self (by omega)).2 hh)))), q44⟩
     ·
      refine sx_skip ?_
      refine q_bn (q_n (k17 _ _ ?_))
      refine sx_region ?_
      refine sx_pure rfl rfl rfl (px_add rfl rfl (by omega)) ?_
      refine sm rfl rfl rfl rfl ?_
      refine wl_nil ?_
      have q45 := Chg.step (l := b2) (h := (b2 + 1)) cwl14 cb20 (by omega)
      have q46 := Chg.step (l := b2) (h := (b2 + 1)) q45 cw22 (by omega)
      have q47 := Chg.step (l := b2) (h := (b2 + 1)) q46 (c26.t c39) (by omega)
      have f48 := f34.ext c39
      exact fun a ha => ⟨_, by omega, (k + 1), ha.sub (Sub.cons (t := 1) rfl (.cons (t := 16) rfl (.cons (t := 17) rfl (.cons (t := 18) (look_int (t := 18) rfl (by first | omega | simp)) (.nil))))), q47, f48, rfl, by omega, AllTo_succ hall (Decidable.not_not.1 h25) ((atI_self (by omega)).1 (Decidable.not_not.1 h25x1))⟩
   ·
    refine sx_exit ?_
    refine q_e (q_e (q_bx (q_n (k12 _ _ ?_))))
    refine sx_seq fun K49 k49 => sx_region ?_
    refine sa rfl rfl rfl rfl ?_
    refine wl_nil (q_n (k49 _ _ ?_))
    refine sx_retc ?_
    refine sx_ret1 Tryd.results41 rfl ?_
    have ek : k = ts.length := by omega
    subst ek
    have q50 := Chg.step (l := 0) (h := 0) (Chg.zero (l := 0) (h := 0) (cb2.t c6)) cwl14 (by omega)
    exact ⟨bTrue ⟨Decidable.not_not.1 h21, by omega, hall⟩, q50⟩

theorem c_iRatesOk {w : World} {pv : ByteArray} {vt : Value} {lvt uvt : Nat} {ts : List Rt} {vvt : List Value} (hG0 : Glob w) (hvt : RtS w lvt uvt vt ts vvt) (h63 : ts.length ≤ 4611686018427387904) (hz : ∀ i, i < ts.length → (ts.getD i rt0).2.2.2.1.length ≤ 4611686018427387904) :
  Ret Tryd.prog 43 [.agg #[.string pv, vt]] w fun v w' => v = .bool (decide (RsOk pv ts)) ∧ Chg 0 0 w w' := by
 have hvt0 := hvt.fit
 refine sx_enter Tryd.func43 rfl Tryd.ntmps43 (Nat.le_of_ble_eq_true rfl) ?_
 refine sx_seq fun K1 k1 => sx_region ?_
 refine sx_box [.string pv, vt] rfl rfl rfl (fun b2 w3 eb2 sb2 fb2 cb2 => ?_)
 have zw3 := cb2.size
 refine sa rfl rfl rfl rfl ?_
 refine wl_nil (q_n (k1 _ _ ?_))
 refine sx_seq fun K4 k4 => ?_
 refine sx_seq fun K5 k5 => sx_region ?_
 refine sx_pure rfl rfl rfl (px_field rfl xfld71x0) ?_
 refine sx_pure rfl rfl rfl (px_load rfl (fb2.load1 rfl Tryd.isAgg9)) ?_
 have f6 := hG0.ext cb2
 refine sx_call rfl rfl Tryd.call61 (c_iCurKnown f6) (fun v7 w7 p7 => ?_)
 obtain ⟨rfl, c7⟩ := p7
 have zw7 := c7.size
 refine sx_pure rfl rfl rfl (px_notP rfl) ?_
 refine sm rfl rfl rfl rfl ?_
 refine sx_tmpP (t := 11) rfl (fun h41 => ?_) (fun h41 => ?_)
 ·
  refine sx_guardF rfl rfl rfl rfl rfl rfl ?_
  refine sx_guardF rfl rfl rfl rfl rfl rfl ?_
  refine sx_guardF rfl rfl rfl rfl rfl rfl ?_
  refine sx_guardF rfl rfl rfl rfl rfl rfl ?_
  refine sx_pure rfl rfl rfl (px_pick rfl rfl) ?_
  refine wl_nil (q_n (k5 _ _ ?_))
  refine sx_condT rfl ?_
  refine sx_seq fun K8 k8 => sx_region ?_
  refine sa rfl rfl rfl rfl ?_
  refine wl_nil (q_n (k8 _ _ ?_))
  refine sx_retc ?_
  refine q_r (sx_ret1 Tryd.results43 rfl ?_)
  exact ⟨bFalse (fun h => by first | exact absurd h.1 (by assumption) | (have := h.2.1; omega)), (cb2.t c7)⟩
 ·
  refine sx_guardT rfl rfl rfl ?_
  refine sx_pure rfl rfl rfl (px_field rfl xfld71x1) ?_
  refine sx_guardT rfl rfl rfl ?_
  have f9 := fb2.ext c7
  refine sx_pure rfl rfl rfl (px_load rfl (f9.load1 rfl Tryd.isAgg69)) ?_
  refine sx_guardT rfl rfl rfl ?_
  have f10 := hvt0.ext cb2
  have f11 := f10.ext c7
  refine sx_pure rfl rfl rfl (px_len rfl Tryd.underlying69 f11.sv) ?_
  refine sx_guardT rfl rfl rfl ?_
  refine sx_pure rfl rfl rfl (px_gt rfl rfl) ?_
  refine sx_pure rfl rfl rfl (px_pick rfl rfl) ?_
  refine wl_nil (q_n (k5 _ _ ?_))
  refine sx_condP rfl (fun h41x1 => ?_) (fun h41x1 => ?_)
  ·
   refine sx_seq fun K12 k12 => sx_region ?_
   refine sa rfl rfl rfl rfl ?_
   refine wl_nil (q_n (k12 _ _ ?_))
   refine sx_retc ?_
   refine q_r (sx_ret1 Tryd.results43 rfl ?_)
   exact ⟨bFalse (fun h => by first | exact absurd h.1 (by assumption) | (have := h.2.1; omega)), (cb2.t c7)⟩
  ·
   refine sx_skip ?_
   refine q_n (k4 _ _ ?_)
   refine sx_seq fun K13 k13 => sx_region ?_
   refine sx_makeMap rfl (fun b14 w15 eb14 sb14 fb14 cb14 => ?_)
   have zw15 := cb14.size
   refine sa rfl rfl rfl rfl ?_
   refine wl_nil (q_n (k13 _ _ ?_))
   refine sx_sub (Sub.cons (t := 1) rfl (.cons (t := 2) rfl (.cons (t := 3) rfl (.nil)))) ?_
   refine sx_seq fun K16 k16 => ?_
   refine sx_seq fun K17 k17 => sx_region ?_
   refine sx_pure rfl rfl rfl (px_field rfl xfld71x1) ?_
   have f18 := f9.ext cb14
   refine sx_pure rfl rfl rfl (px_load rfl (f18.load1 rfl Tryd.isAgg69)) ?_
   have f19 := f11.ext cb14
   refine sx_pure rfl rfl rfl (px_len rfl Tryd.underlying69 f19.sv) ?_
   refine sm rfl rfl rfl rfl ?_
   refine wl_nil (q_n (k17 _ _ ?_))
   refine sx_block ?_
   refine sx_loop (fun mm aa w' => ∃ (k : Nat), Agr 41 [(3, .map (some b14)), (19, vt), (20, .int .i64 (↑(ts).length)), (21, .int .i64 ↑k)] aa ∧ Chg b14 (b14 + 1) w15 w' ∧ Mp w' b14 (keysTo ts k) ∧ (mm = ts.length - k) ∧ (k ≤ ts.length) ∧ (AllTo ts k)) (_) (fun a ha => ⟨0, ha.sub (Sub.cons (t := 3) rfl (.cons (t := 19) rfl (.cons (t := 20) (look_int (t := 20) rfl (by first | omega | simp)) (.cons (t := 21) (look_int (t := 21) rfl (by first | omega | simp)) (.nil))))), Chg.refl _ _ _, (by rw [show keysTo ts 0 = [] by simp [keysTo]]; exact fb14), rfl, by omega, AllTo_zero ts⟩) ?_
   rintro mm aa wl20 ⟨k, hAwl20, cwl20, hs_Mb14, hm, hk, hall⟩
   refine (show cw Tryd.prog 41 _ _ _ wl20 from ?_) aa hAwl20
   clear hAwl20
   have zwl20 := cwl20.size
   refine sx_seq fun K21 k21 => sx_region ?_
   refine sx_pure rfl rfl rfl (px_lt rfl rfl) ?_
   refine wl_nil (q_n (k21 _ _ ?_))
   refine sx_seq fun K22 k22 => ?_
   refine sx_condP rfl (fun h45 => ?_) (fun h45 => ?_)
   ·
    refine sx_skip ?_
    refine q_n (k22 _ _ ?_)
    refine sx_seq fun K23 k23 => ?_
    refine sx_block ?_
    refine sx_seq fun K24 k24 => sx_region ?_
    have f25 := f19.chg cwl20 (by omega)
    refine sx_pure rfl rfl rfl (px_indexK (j := k) rfl rfl (by omega) Tryd.underlying69 Tryd.sizeOf54 f25.sv (by omega)) ?_
    refine sx_pure rfl rfl rfl (px_load rfl (f25.sv.loadA (rt_look f25.len (by omega)) Tryd.isAgg54 Tryd.sizeOf54)) ?_
    refine sx_alloc [.string (⟨#[]⟩), .string (⟨#[]⟩), .bool false, (.slice none 0 0), .int .i64 0] rfl Tryd.zeroValue54 rfl (fun b26 w27 eb26 sb26 fb26 cb26 => ?_)
    have zw27 := cb26.size
    have f29 := (f25.nest k (by omega)).ext cb26
    refine sx_store (vs := [.string ((ts.getD k rt0).1), .string ((ts.getD k rt0).2.1), .bool ((ts.getD k rt0).2.2.1), (vvt.getD k vz), .int .i64 ((ts.getD k rt0).2.2.2.2)]) rfl rfl fb26 rfl Tryd.sizeOf54 (Nat.le_of_ble_eq_true rfl) (one_cons rfl (one_cons rfl (one_cons rfl (one_cons f29.one (one_cons rfl one_nil))))) (fun w28 sw28 fw28 cw28 => ?_)
    have zw28 := cw28.size
    have gw28 : Blk w28 b26 [.string ((ts.getD k rt0).1), .string ((ts.getD k rt0).2.1), .bool ((ts.getD k rt0).2.2.1), (vvt.getD k vz), .int .i64 ((ts.getD k rt0).2.2.2.2)] 54 := fw28
    refine wl_nil (q_n (k24 _ _ ?_))
    refine sx_seq fun K30 k30 => sx_region ?_
    refine sx_pure rfl rfl rfl (px_field rfl xfld54x0) ?_
    refine sx_pure rfl rfl rfl (px_load rfl (gw28.load1 rfl Tryd.isAgg9)) ?_
    refine sx_pure rfl rfl rfl (px_field rfl xfld54x1) ?_
    refine sx_pure rfl rfl rfl (px_load rfl (gw28.load1 rfl Tryd.isAgg9)) ?_
    refine sx_pure rfl rfl rfl (px_build rfl (xbld114x0x1 rfl rfl _)) ?_
    refine sx_alloc [.string (⟨#[]⟩), .string (⟨#[]⟩)] rfl Tryd.zeroValue114 rfl (fun b31 w32 eb31 sb31 fb31 cb31 => ?_)
    have zw32 := cb31.size
    refine sx_store (vs := [.string ((ts.getD k rt0).1), .string ((ts.getD k rt0).2.1)]) rfl rfl fb31 rfl Tryd.sizeOf114 (Nat.le_of_ble_eq_true rfl) (one_cons rfl (one_cons rfl one_nil)) (fun w33 sw33 fw33 cw33 => ?_)
    have zw33 := cw33.size
    have gw33 : Blk w33 b31 [.string ((ts.getD k rt0).1), .string ((ts.getD k rt0).2.1)] 114 := fw33
    refine wl_nil (q_n (k30 _ _ ?_))
    refine sx_seq fun K34 k34 => ?_
    refine sx_seq fun K35 k35 => sx_region ?_
    have f36 := gw28.ext cb31
    have f37 := f36.chg cw33 (by omega)
    refine sx_pure rfl rfl rfl (px_load rfl (f37.loadA (vs := [.string ((ts.getD k rt0).1), .string ((ts.getD k rt0).2.1), .bool ((ts.getD k rt0).2.2.1), (vvt.getD k vz), .int .i64 ((ts.getD k rt0).2.2.2.2)]) (look_lit rfl) Tryd.isAgg54 Tryd.sizeOf54)) ?_
    have f38 := f6.ext c7
    have f39 := f38.ext cb14
    have f40 := f39.chg cwl20 (by omega)
    have f41 := f40.ext cb26
    have f42 := f41.chg cw28 (by omega)
    have f43 := f42.ext cb31
    have f44 := f43.chg cw33 (by omega)
    have f45 := f29.chg cw28 (by omega)
    have f46 := f45.ext cb31
    have f47 := f46.chg cw33 (by omega)
    refine sx_call rfl rfl Tryd.call32 (c_iRateOk f44 f47 (hz k (by omega))) (fun v48 w48 p48 => ?_)
    obtain ⟨rfl, c48⟩ := p48
    have zw48 := c48.size
    refine sx_pure rfl rfl rfl (px_notP rfl) ?_
    refine sm rfl rfl rfl rfl ?_
    refine sx_tmpP (t := 33) rfl (fun h47 => ?_) (fun h47 => ?_)
    ·
     refine sx_guardF rfl rfl rfl rfl rfl rfl ?_
     refine sx_guardF rfl rfl rfl rfl rfl rfl ?_
     refine sx_guardF rfl rfl rfl rfl rfl rfl ?_
     refine sx_pure rfl rfl rfl (px_pick rfl rfl) ?_
     refine wl_nil (q_n (k35 _ _ ?_))
     refine sx_sub (Sub.cons (t := 3) rfl (.cons (t := 6) rfl (.cons (t := 19) rfl (.cons (t := 20) rfl (.cons (t := 21) rfl (.cons (t := 37) rfl (.nil))))))) ?_
     refine sx_condT rfl ?_
     refine sx_seq fun K49 k49 => sx_region ?_
     refine sa rfl rfl rfl rfl ?_
     refine wl_nil (q_n (k49 _ _ ?_))
     refine sx_retc ?_
     refine q_r (q_br (q_r (q_r (q_br (q_r (sx_ret1 Tryd.results43 rfl ?_))))))
     have q50 := Chg.step (l := 0) (h := 0) (Chg.zero (l := 0) (h := 0) ((cb2.t c7).t cb14)) cwl20 (by omega)
     have q51 := Chg.step (l := 0) (h := 0) q50 cb26 (by omega)
     have q52 := Chg.step (l := 0) (h := 0) q51 cw28 (by omega)
     have q53 := Chg.step (l := 0) (h := 0) q52 cb31 (by omega)
     have q54 := Chg.step (l := 0) (h := 0) q53 cw33 (by omega)
     have q55 := Chg.step (l := 0) (h := 0) q54 c48 (by omega)
     exact ⟨(by first | exact bFalse (rsok_no_rate (k := k) (by omega) h47) | exact bFalse (rsok_no_key (k := k) (by omega) (fun hh => by obtain ⟨i, hi, hs⟩ := (mem_keysTo (by omega)).1 h47x1; exact hh i hi hs))), q55⟩
    ·
     refine sx_guardT rfl rfl rfl ?_
     refine sm rfl rfl rfl rfl ?_
     refine sx_guardT rfl rfl rfl ?_
     have f56 := gw33.ext c48
     refine sx_pure rfl rfl rfl (px_load rfl (f56.loadA (vs := [.string ((ts.getD k rt0).1), .string ((ts.getD k rt0).2.1)]) (look_lit rfl) Tryd.isAgg114 Tryd.sizeOf114)) ?_
     refine sx_guardT rfl rfl rfl ?_
     have f57 := hs_Mb14.ext cb26
     have f58 := f57.chg cw28 (by omega)
     have f59 := f58.ext cb31
     have f60 := f59.chg cw33 (by omega)
     have f61 := f60.ext c48
     refine sx_pure rfl rfl rfl (px_lookupM rfl rfl Tryd.underlying112 xpair114 Tryd.zeroValue4 f61) ?_
     refine sx_pure rfl rfl rfl (px_pick rfl rfl) ?_
     refine wl_nil (q_n (k35 _ _ ?_))
     refine sx_sub (Sub.cons (t := 3) rfl (.cons (t := 6) rfl (.cons (t := 19) rfl (.cons (t := 20) rfl (.cons (t := 21) rfl (.cons (t := 37) rfl (.nil))))))) ?_
     refine sx_condP rfl (fun h47x1 => ?_) (fun h47x1 => ?_)
     ·
      refine sx_seq fun K62 k62 => sx_region ?_
      refine sa rfl rfl rfl rfl ?_
      refine wl_nil (q_n (k62 _ _ ?_))
      refine sx_retc ?_
      refine q_r (q_br (q_r (q_r (q_br (q_r (sx_ret1 Tryd.results43 rfl ?_))))))
      have q63 := Chg.step (l := 0) (h := 0) (Chg.zero (l := 0) (h := 0) ((cb2.t c7).t cb14)) cwl20 (by omega)
      have q64 := Chg.step (l := 0) (h := 0) q63 cb26 (by omega)
      have q65 := Chg.step (l := 0) (h := 0) q64 cw28 (by omega)
      have q66 := Chg.step (l := 0) (h := 0) q65 cb31 (by omega)
      have q67 := Chg.step (l := 0) (h := 0) q66 cw33 (by omega)
      have q68 := Chg.step (l := 0) (h := 0) q67 c48 (by omega)
      exact ⟨(by first | exact bFalse (rsok_no_rate (k := k) (by omega) h47) | exact bFalse (rsok_no_key (k := k) (by omega) (fun hh => by obtain ⟨i, hi, hs⟩ := (mem_keysTo (by omega)).1 h47x1; exact hh i hi hs))), q68⟩
     ·
      refine sx_skip ?_
      refine q_n (k34 _ _ ?_)
      refine sx_region ?_
      refine sm rfl rfl rfl rfl ?_
      refine sx_pure rfl rfl rfl (px_load rfl (f56.loadA (vs := [.string ((ts.getD k rt0).1), .string ((ts.getD k rt0).2.1)]) (look_lit rfl) Tryd.isAgg114 Tryd.sizeOf114)) ?_
      refine sx_mapUpdateM rfl rfl rfl Tryd.underlying112 xpair114 f61 (by assumption) (fun w69 sw69 fw69 cw69 => ?_)
      have zw69 := cw69.size
      refine wl_nil ?_
      refine q_bn (q_n (k23 _ _ ?_))
      refine sx_region ?_
      refine sx_pure rfl rfl rfl (px_add rfl rfl (by omega)) ?_
      refine sm rfl rfl rfl rfl ?_
      refine wl_nil ?_
      have q70 := Chg.step (l := b14) (h := (b14 + 1)) cwl20 cb26 (by omega)
      have q71 := Chg.step (l := b14) (h := (b14 + 1)) q70 cw28 (by omega)
      have q72 := Chg.step (l := b14) (h := (b14 + 1)) q71 cb31 (by omega)
      have q73 := Chg.step (l := b14) (h := (b14 + 1)) q72 cw33 (by omega)
      have q74 := Chg.step (l := b14) (h := (b14 + 1)) q73 c48 (by omega)
      have q75 := Chg.step (l := b14) (h := (b14 + 1)) q74 cw69 (by omega)
      exact fun a ha => ⟨_, by omega, (k + 1), ha.sub (Sub.cons (t := 3) rfl (.cons (t := 19) rfl (.cons (t := 20) rfl (.cons (t := 21) (look_int (t := 21) rfl (by first | omega | simp)) (.nil))))), q75, (by rw [keysTo_succ (by omega)]; exact fw69), rfl, by omega, AllTo_succ hall (Decidable.not_not.1 h47) (fun i hi hs => h47x1 ((mem_keysTo (by omega)).2 ⟨i, hi, hs⟩))⟩
   ·
    refine sx_exit ?_
    refine q_e (q_e (q_bx (q_n (k16 _ _ ?_))))
    refine sx_seq fun K76 k76 => sx_region ?_
    refine sa rfl rfl rfl rfl ?_
    refine wl_nil (q_n (k76 _ _ ?_))
    refine sx_retc ?_
    refine sx_ret1 Tryd.results43 rfl ?_
    have ek : k = ts.length := by omega
    subst ek
    have q77 := Chg.step (l := 0) (h := 0) (Chg.zero (l := 0) (h := 0) ((cb2.t c7).t cb14)) cwl20 (by omega)
    exact ⟨bTrue ⟨Decidable.not_not.1 h41, by omega, hall⟩, q77⟩

theorem c_eqRateS {w : World} {va : Value} {lva uva : Nat} {ts : List Rt} {vva : List Value} {vb : Value} {lvb uvb : Nat} {rs : List Rt} {vvb : List Value} (hva : RtS w lva uva va ts vva) (hvb : RtS w lvb uvb vb rs vvb) (h63 : ts.length ≤ 1048576 ∧ rs.length ≤ 1048576) (hz1 : ∀ i, i < ts.length → (ts.getD i rt0).2.2.2.1.length ≤ 1048576) (hz2 : ∀ i, i < rs.length → (rs.getD i rt0).2.2.2.1.length ≤ 1048576) :
  Ret Tryd.prog 95 [va, vb] w fun v w' => v = .bool (decide (ts = rs)) ∧ Chg 0 0 w w' := by
 have hva0 := hva.fit
 have hvb0 := hvb.fit
 refine sx_enter Tryd.func95 rfl Tryd.ntmps95 (Nat.le_of_ble_eq_true rfl) ?_
 refine sx_seq fun K1 k1 => sx_region ?_
 refine sa rfl rfl rfl rfl ?_
 refine wl_nil (q_n (k1 _ _ ?_))
 refine sx_seq fun K2 k2 => ?_
 refine sx_seq fun K3 k3 => sx_region ?_
 refine sm rfl rfl rfl rfl ?_
 refine sx_pure rfl rfl rfl (px_len rfl Tryd.underlying69 hva0.sv) ?_
 refine sm rfl rfl rfl rfl ?_
 refine sx_pure rfl rfl rfl (px_len rfl Tryd.underlying69 hvb0.sv) ?_
 refine sx_pure rfl rfl rfl (px_ne rfl rfl) ?_
 refine wl_nil (q_n (k3 _ _ ?_))
 refine sx_condP rfl (fun h611 => ?_) (fun h611 => ?_)
 ·
  refine sx_seq fun K4 k4 => sx_region ?_
  refine sa rfl rfl rfl rfl ?_
  refine wl_nil (q_n (k4 _ _ ?_))
  refine sx_retc ?_
  refine q_r (sx_ret1 Tryd.results95 rfl ?_)
  exact ⟨bFalse (len_ne_rt (by omega)), (Chg.refl 0 0 _)⟩
 ·
  refine sx_skip ?_
  refine q_n (k2 _ _ ?_)
  refine sx_seq fun K5 k5 => ?_
  refine sx_seq fun K6 k6 => sx_region ?_
  refine sa rfl rfl rfl rfl ?_
  refine wl_nil (q_n (k6 _ _ ?_))
  refine sx_block ?_
  refine sx_loop (fun mm aa w' => ∃ (k : Nat), Agr 27 [(0, va), (1, vb), (5, .int .i64 ↑k)] aa ∧ Chg 0 0 w w' ∧ (mm = ts.length - k) ∧ (k ≤ ts.length) ∧ (ts.take k = rs.take k)) (_) (fun a ha => ⟨0, ha.sub (Sub.cons (t := 0) rfl (.cons (t := 1) rfl (.cons (t := 5) (look_int (t := 5) rfl (by first | omega | simp)) (.nil)))), Chg.refl _ _ _, rfl, by omega, by simp⟩) ?_
  rintro mm aa wl7 ⟨k, hAwl7, cwl7, hm, hk, he⟩
  refine (show cw Tryd.prog 27 _ _ _ wl7 from ?_) aa hAwl7
  clear hAwl7
  have zwl7 := cwl7.size
  refine sx_seq fun K8 k8 => ?_
  refine sx_seq fun K9 k9 => sx_region ?_
  refine sm rfl rfl rfl rfl ?_
  refine sm rfl rfl rfl rfl ?_
  have f10 := hva0.ext cwl7
  refine sx_pure rfl rfl rfl (px_len rfl Tryd.underlying69 f10.sv) ?_
  refine sx_pure rfl rfl rfl (px_lt rfl rfl) ?_
  refine wl_nil (q_n (k9 _ _ ?_))
  refine sx_condP rfl (fun h614 => ?_) (fun h614 => ?_)
  ·
   refine sx_skip ?_
   refine q_n (k8 _ _ ?_)
   refine sx_seq fun K11 k11 => ?_
   refine sx_block ?_
   refine sx_seq fun K12 k12 => ?_
   have f13 := hvb0.ext cwl7
   refine dx_region (fun w' => Chg 0 0 wl7 w') (by kernel_rfl) (Chg.zero (Chg.drew _)) ?_
   have d14 := Chg.drew wl7
   have s14 : Chg 0 0 wl7 (World.drew wl7) := Chg.zero (Chg.drew _)
   have y14 : (World.drew wl7).heap.size = wl7.heap.size := rfl
   generalize World.drew wl7 = w14 at *
   have zw14 := d14.size
   refine dx_take 0 rfl rfl rfl rfl (by kernel_rfl) (by kernel_rfl) (by kernel_rfl) s14 (fun _ hS => px_move rfl) ?_
   refine dx_take 1 rfl rfl rfl rfl (by kernel_rfl) (by kernel_rfl) (by kernel_rfl) s14 (fun _ hS => px_move rfl) ?_
   refine dx_take 2 rfl rfl rfl rfl (by kernel_rfl) (by kernel_rfl) (by kernel_rfl) s14 (fun _ hS => px_indexK (j := k) rfl rfl (by omega) Tryd.underlying69 Tryd.sizeOf54 ((f10.sv).chg hS (by omega)) (by omega)) ?_
   refine dx_take 3 rfl rfl rfl rfl (by kernel_rfl) (by kernel_rfl) (by kernel_rfl) s14 (fun _ hS => px_load rfl (((f10.sv).chg hS (by omega)).loadA (rt_look f10.len (by omega)) Tryd.isAgg54 Tryd.sizeOf54)) ?_
   refine dx_take 4 rfl rfl rfl rfl (by kernel_rfl) (by kernel_rfl) (by kernel_rfl) s14 (fun _ hS => px_move rfl) ?_
   refine dx_take 5 rfl rfl rfl rfl (by kernel_rfl) (by kernel_rfl) (by kernel_rfl) s14 (fun _ hS => px_move rfl) ?_
   refine dx_take 6 rfl rfl rfl rfl (by kernel_rfl) (by kernel_rfl) (by kernel_rfl) s14 (fun _ hS => px_indexK (j := k) rfl rfl (by omega) Tryd.underlying69 Tryd.sizeOf54 ((f13.sv).chg hS (by omega)) (by omega)) ?_
   refine dx_take 7 rfl rfl rfl rfl (by kernel_rfl) (by kernel_rfl) (by kernel_rfl) s14 (fun _ hS => px_load rfl (((f13.sv).chg hS (by omega)).loadA (rt_look f13.len (by omega)) Tryd.isAgg54 Tryd.sizeOf54)) ?_
   refine dx_eff 8 rfl (by kernel_rfl) ?_
   have f15 := (f10.nest k (by omega)).ext d14
   have f16 := (f13.nest k (by omega)).ext d14
   refine sx_call rfl rfl Tryd.call33 (c_eqRate f15 f16 (by have h1 := hz1 k (by omega); have h2 := hz2 k (by omega); omega)) (fun v17 w17 p17 => ?_)
   obtain ⟨rfl, c17⟩ := p17
   have zw17 := c17.size
   have s18 : Chg 0 0 wl7 w17 := (d14.t c17)
   refine wl_nil ?_
   refine dx_next s18 ?_
   refine dx_take 9 rfl rfl rfl rfl (by kernel_rfl) (by kernel_rfl) (by kernel_rfl) s18 (fun _ hS => px_notP rfl) ?_
   refine dx_done (by kernel_rfl) ?_
   refine q_n (k12 _ _ ?_)
   refine sx_sub (Sub.cons (t := 0) rfl (.cons (t := 1) rfl (.cons (t := 5) rfl (.cons (t := 26) rfl (.nil))))) ?_
   refine sx_condP rfl (fun h615 => ?_) (fun h615 => ?_)
   ·
    refine sx_seq fun K19 k19 => sx_region ?_
    refine sa rfl rfl rfl rfl ?_
    refine wl_nil (q_n (k19 _ _ ?_))
    refine sx_retc ?_
    refine q_br (q_r (q_r (q_br (q_r (sx_ret1 Tryd.results95 rfl ?_)))))
    exact ⟨bFalse (rt_ne h615), ((cwl7.t d14).t c17)⟩
   ·
    refine sx_skip ?_
    refine q_bn (q_n (k11 _ _ ?_))
    refine sx_region ?_
    refine sm rfl rfl rfl rfl ?_
    refine sx_pure rfl rfl rfl (px_add rfl rfl (by omega)) ?_
    refine sa rfl rfl rfl rfl ?_
    refine wl_nil ?_
    exact fun a ha => ⟨_, by omega, (k + 1), ha.sub (Sub.cons (t := 0) rfl (.cons (t := 1) rfl (.cons (t := 5) (look_int (t := 5) rfl (by first | omega | simp)) (.nil)))), ((cwl7.t d14).t c17), rfl, by omega, rt_take_succ_eq he (by omega) (by omega) (rt_eq (Decidable.not_not.1 h615))⟩
  ·
   refine sx_exit ?_
   refine q_e (q_e (q_bx (q_n (k5 _ _ ?_))))
   refine sx_seq fun K20 k20 => sx_region ?_
   refine sa rfl rfl rfl rfl ?_
   refine wl_nil (q_n (k20 _ _ ?_))
   refine sx_retc ?_
   refine sx_ret1 Tryd.results95 rfl ?_
   have e1 : k = ts.length := by omega
   rw [e1, List.take_length, List.take_of_length_le (by omega)] at he
   exact ⟨bTrue he, cwl7⟩

theorem c_eqRates {w : World} {pv : ByteArray} {va : Value} {lva uva : Nat} {ts : List Rt} {vva : List Value} {qv : ByteArray} {vb : Value} {lvb uvb : Nat} {rs : List Rt} {vvb : List Value} (hva : RtS w lva uva va ts vva) (hvb : RtS w lvb uvb vb rs vvb) (h63 : ts.length ≤ 1048576 ∧ rs.length ≤ 1048576) (hz1 : ∀ i, i < ts.length → (ts.getD i rt0).2.2.2.1.length ≤ 1048576) (hz2 : ∀ i, i < rs.length → (rs.getD i rt0).2.2.2.1.length ≤ 1048576) :
  Ret Tryd.prog 44 [.agg #[.string pv, va], .agg #[.string qv, vb]] w fun v w' => v = .bool (decide (pv = qv ∧ ts = rs)) ∧ Chg 0 0 w w' := by
 have hva0 := hva.fit
 have hvb0 := hvb.fit
 refine sx_enter Tryd.func44 rfl Tryd.ntmps44 (Nat.le_of_ble_eq_true rfl) ?_
 refine sx_seq fun K1 k1 => sx_region ?_
 refine sx_box [.string pv, va] rfl rfl rfl (fun b2 w3 eb2 sb2 fb2 cb2 => ?_)
 have zw3 := cb2.size
 refine sx_box [.string qv, vb] rfl rfl rfl (fun b4 w5 eb4 sb4 fb4 cb4 => ?_)
 have zw5 := cb4.size
 refine sa rfl rfl rfl rfl ?_
 refine wl_nil (q_n (k1 _ _ ?_))
 refine sx_seq fun K6 k6 => ?_
 refine sx_seq fun K7 k7 => sx_region ?_
 refine sx_pure rfl rfl rfl (px_field rfl xfld71x0) ?_
 have f8 := fb2.ext cb4
 refine sx_pure rfl rfl rfl (px_load rfl (f8.load1 rfl Tryd.isAgg9)) ?_
 refine sx_pure rfl rfl rfl (px_field rfl xfld71x0) ?_
 refine sx_pure rfl rfl rfl (px_load rfl (fb4.load1 rfl Tryd.isAgg9)) ?_
 refine sx_pure rfl rfl rfl (px_neS rfl rfl) ?_
 refine wl_nil (q_n (k7 _ _ ?_))
 refine sx_condP rfl (fun h623 => ?_) (fun h623 => ?_)
 ·
  refine sx_seq fun K9 k9 => sx_region ?_
  refine sa rfl rfl rfl rfl ?_
  refine wl_nil (q_n (k9 _ _ ?_))
  refine sx_retc ?_
  refine q_r (sx_ret1 Tryd.results44 rfl ?_)
  exact ⟨(by first | exact bTrue (by grind) | exact bFalse (by grind) | exact bIff (by grind)), (cb2.t cb4)⟩
 ·
  refine sx_skip ?_
  refine q_n (k6 _ _ ?_)
  refine sx_seq fun K10 k10 => ?_
  refine sx_seq fun K11 k11 => sx_region ?_
  refine sx_pure rfl rfl rfl (px_field rfl xfld71x1) ?_
  refine sx_pure rfl rfl rfl (px_load rfl (f8.load1 rfl Tryd.isAgg69)) ?_
  refine sx_pure rfl rfl rfl (px_field rfl xfld71x1) ?_
  refine sx_pure rfl rfl rfl (px_load rfl (fb4.load1 rfl Tryd.isAgg69)) ?_
  have f12 := hva0.ext cb2
  have f13 := f12.ext cb4
  have f14 := hvb0.ext cb2
  have f15 := f14.ext cb4
  refine sx_call rfl rfl Tryd.call95 (c_eqRateS f13 f15 (by omega) (by assumption) (by assumption)) (fun v16 w16 p16 => ?_)
  obtain ⟨rfl, c16⟩ := p16
  have zw16 := c16.size
  refine sx_pure rfl rfl rfl (px_notP rfl) ?_
  refine wl_nil (q_n (k11 _ _ ?_))
  refine sx_sub (Sub.cons (t := 4) rfl (.cons (t := 15) rfl (.nil))) ?_
  refine sx_condP rfl (fun h626 => ?_) (fun h626 => ?_)
  ·
   refine sx_seq fun K17 k17 => sx_region ?_
   refine sa rfl rfl rfl rfl ?_
   refine wl_nil (q_n (k17 _ _ ?_))
   refine sx_retc ?_
   refine q_r (sx_ret1 Tryd.results44 rfl ?_)
   exact ⟨(by first | exact bTrue (by grind) | exact bFalse (by grind) | exact bIff (by grind)), ((cb2.t cb4).t c16)⟩
  ·
   refine sx_skip ?_
   refine q_n (k10 _ _ ?_)
   refine sx_seq fun K18 k18 => sx_region ?_
   refine sa rfl rfl rfl rfl ?_
   refine wl_nil (q_n (k18 _ _ ?_))
   refine sx_retc ?_
   refine sx_ret1 Tryd.results44 rfl ?_
   exact ⟨(by first | exact bTrue (by grind) | exact bFalse (by grind) | exact bIff (by grind)), ((cb2.t cb4).t c16)⟩

theorem c_l10Leg {w : World} {pv : ByteArray} {vt : Value} {lvt uvt : Nat} {ts : List Rt} {vvt : List Value} {a : ByteArray} {b : ByteArray} (hvt : RtS w lvt uvt vt ts vvt) (h63 : ts.length ≤ 4611686018427387904) :
  Ret Tryd.prog 98 [.agg #[.string pv, vt], .string a, .string b] w fun v w' => v = .int .i64 (leg ts a b) ∧ Chg 0 0 w w' := by
 have hvt0 := hvt.fit
 refine sx_enter Tryd.func98 rfl Tryd.ntmps98 (Nat.le_of_ble_eq_true rfl) ?_
 refine sx_seq fun K1 k1 => sx_region ?_
 refine sx_box [.string pv, vt] rfl rfl rfl (fun b2 w3 eb2 sb2 fb2 cb2 => ?_)
 have zw3 := cb2.size
 refine sa rfl rfl rfl rfl ?_
 refine wl_nil (q_n (k1 _ _ ?_))
 refine sx_seq fun K4 k4 => ?_
 refine sx_seq fun K5 k5 => sx_region ?_
 refine sx_pure rfl rfl rfl (px_field rfl xfld71x1) ?_
 refine sx_pure rfl rfl rfl (px_load rfl (fb2.load1 rfl Tryd.isAgg69)) ?_
 refine sm rfl rfl rfl rfl ?_
 refine sm rfl rfl rfl rfl ?_
 have f6 := hvt0.ext cb2
 refine sx_call rfl rfl Tryd.call93 (c_l10At f6 (by omega)) (fun v7 w7 p7 => ?_)
 obtain ⟨rfl, c7⟩ := p7
 have zw7 := c7.size
 refine sx_pure rfl rfl rfl (px_ge rfl rfl) ?_
 refine wl_nil (q_n (k5 _ _ ?_))
 refine sx_condP rfl (fun h64 => ?_) (fun h64 => ?_)
 ·
  refine sx_seq fun K8 k8 => sx_region ?_
  refine sa rfl rfl rfl rfl ?_
  refine wl_nil (q_n (k8 _ _ ?_))
  refine sx_retc ?_
  refine q_r (sx_ret1 Tryd.results98 rfl ?_)
  exact ⟨(by unfold leg; rw [if_pos h64]), (cb2.t c7)⟩
 ·
  refine sx_skip ?_
  refine q_n (k4 _ _ ?_)
  refine sx_seq fun K9 k9 => ?_
  refine sx_seq fun K10 k10 => sx_region ?_
  refine sx_pure rfl rfl rfl (px_field rfl xfld71x1) ?_
  have f11 := fb2.ext c7
  refine sx_pure rfl rfl rfl (px_load rfl (f11.load1 rfl Tryd.isAgg69)) ?_
  refine sm rfl rfl rfl rfl ?_
  refine sm rfl rfl rfl rfl ?_
  have f12 := f6.ext c7
  refine sx_call rfl rfl Tryd.call93 (c_l10At f12 (by omega)) (fun v13 w13 p13 => ?_)
  obtain ⟨rfl, c13⟩ := p13
  have zw13 := c13.size
  refine sx_pure rfl rfl rfl (px_ge rfl rfl) ?_
  refine wl_nil (q_n (k10 _ _ ?_))
  refine sx_sub (Sub.cons (t := 6) rfl (.cons (t := 18) rfl (.nil))) ?_
  refine sx_condP rfl (fun h67 => ?_) (fun h67 => ?_)
  ·
   refine sx_seq fun K14 k14 => sx_region ?_
   refine sa rfl rfl rfl rfl ?_
   refine wl_nil (q_n (k14 _ _ ?_))
   refine sx_retc ?_
   refine q_r (sx_ret1 Tryd.results98 rfl ?_)
   exact ⟨(by unfold leg; rw [if_neg h64, if_pos h67]), ((cb2.t c7).t c13)⟩
  ·
   refine sx_skip ?_
   refine q_n (k9 _ _ ?_)
   refine sx_seq fun K15 k15 => sx_region ?_
   refine sa rfl rfl rfl rfl ?_
   refine wl_nil (q_n (k15 _ _ ?_))
   refine sx_retc ?_
   refine sx_ret1 Tryd.results98 rfl ?_
   exact ⟨(by unfold leg; rw [if_neg h64, if_neg h67]), ((cb2.t c7).t c13)⟩

theorem c_sRateHow {w : World} {pv : ByteArray} {vt : Value} {lvt uvt : Nat} {ts : List Rt} {vvt : List Value} {a : ByteArray} {b : ByteArray} (hvt : RtS w lvt uvt vt ts vvt) (h63 : ts.length ≤ 4611686018427387904) (hz : ∀ i, i < ts.length → (ts.getD i rt0).2.2.2.1.length ≤ 4611686018427387904) :
  Ret Tryd.prog 47 [.agg #[.string pv, vt], .string a, .string b] w fun v w' => v = .int .i64 (how pv ts a b) ∧ Chg 0 0 w w' := by
 have hvt0 := hvt.fit
 refine sx_enter Tryd.func47 rfl Tryd.ntmps47 (Nat.le_of_ble_eq_true rfl) ?_
 refine sx_seq fun K1 k1 => sx_region ?_
 refine sx_box [.string pv, vt] rfl rfl rfl (fun b2 w3 eb2 sb2 fb2 cb2 => ?_)
 have zw3 := cb2.size
 refine sa rfl rfl rfl rfl ?_
 refine wl_nil (q_n (k1 _ _ ?_))
 refine sx_seq fun K4 k4 => ?_
 refine sx_seq fun K5 k5 => sx_region ?_
 refine sx_pure rfl rfl rfl (px_load rfl (fb2.loadA (vs := [.string pv, vt]) (look_lit rfl) Tryd.isAgg71 Tryd.sizeOf71)) ?_
 have f6 := hvt0.ext cb2
 refine sx_call rfl rfl Tryd.call41 (c_sRatesOk f6 (by omega) (by first | assumption | exact fun i hi => Nat.le_trans (hzz i hi) (by omega))) (fun v7 w7 p7 => ?_)
 obtain ⟨rfl, c7⟩ := p7
 have zw7 := c7.size
 refine sx_pure rfl rfl rfl (px_notP rfl) ?_
 refine sm rfl rfl rfl rfl ?_
 refine sx_tmpP (t := 11) rfl (fun h75 => ?_) (fun h75 => ?_)
 ·
  refine sx_guardF rfl rfl rfl rfl rfl rfl ?_
  refine sx_guardF rfl rfl rfl rfl rfl rfl ?_
  refine sx_guardF rfl rfl rfl rfl rfl rfl ?_
  refine sx_pure rfl rfl rfl (px_pick rfl rfl) ?_
  refine sm rfl rfl rfl rfl ?_
  refine sx_guardF rfl rfl rfl rfl rfl rfl ?_
  refine sx_guardF rfl rfl rfl rfl rfl rfl ?_
  refine sx_guardF rfl rfl rfl rfl rfl rfl ?_
  refine sx_pure rfl rfl rfl (px_pick rfl rfl) ?_
  refine wl_nil (q_n (k5 _ _ ?_))
  refine sx_sub (Sub.cons (t := 1) rfl (.cons (t := 2) rfl (.cons (t := 3) rfl (.cons (t := 6) rfl (.cons (t := 20) rfl (.nil)))))) ?_
  refine sx_condT rfl ?_
  refine sx_seq fun K8 k8 => sx_region ?_
  refine sa rfl rfl rfl rfl ?_
  refine wl_nil (q_n (k8 _ _ ?_))
  refine sx_retc ?_
  refine q_r (sx_ret1 Tryd.results47 rfl ?_)
  exact ⟨(by unfold how; first | grind | simp_all), (cb2.t c7)⟩
 ·
  refine sx_guardT rfl rfl rfl ?_
  refine sm rfl rfl rfl rfl ?_
  refine sx_guardT rfl rfl rfl ?_
  refine sx_call rfl rfl Tryd.call58 (c_sCurKnown) (fun v9 w9 p9 => ?_)
  obtain ⟨rfl, c9⟩ := p9
  have zw9 := c9.size
  refine sx_guardT rfl rfl rfl ?_
  refine sx_pure rfl rfl rfl (px_notP rfl) ?_
  refine sx_pure rfl rfl rfl (px_pick rfl rfl) ?_
  refine sm rfl rfl rfl rfl ?_
  refine sx_tmpP (t := 16) rfl (fun h75x1 => ?_) (fun h75x1 => ?_)
  ·
   refine sx_guardF rfl rfl rfl rfl rfl rfl ?_
   refine sx_guardF rfl rfl rfl rfl rfl rfl ?_
   refine sx_guardF rfl rfl rfl rfl rfl rfl ?_
   refine sx_pure rfl rfl rfl (px_pick rfl rfl) ?_
   refine wl_nil (q_n (k5 _ _ ?_))
   refine sx_sub (Sub.cons (t := 1) rfl (.cons (t := 2) rfl (.cons (t := 3) rfl (.cons (t := 6) rfl (.cons (t := 20) rfl (.nil)))))) ?_
   refine sx_condT rfl ?_
   refine sx_seq fun K10 k10 => sx_region ?_
   refine sa rfl rfl rfl rfl ?_
   refine wl_nil (q_n (k10 _ _ ?_))
   refine sx_retc ?_
   refine q_r (sx_ret1 Tryd.results47 rfl ?_)
   exact ⟨(by unfold how; first | grind | simp_all), ((cb2.t c7).t c9)⟩
  ·
   refine sx_guardT rfl rfl rfl ?_
   refine sm rfl rfl rfl rfl ?_
   refine sx_guardT rfl rfl rfl ?_
   refine sx_call rfl rfl Tryd.call58 (c_sCurKnown) (fun v11 w11 p11 => ?_)
   obtain ⟨rfl, c11⟩ := p11
   have zw11 := c11.size
   refine sx_guardT rfl rfl rfl ?_
   refine sx_pure rfl rfl rfl (px_notP rfl) ?_
   refine sx_pure rfl rfl rfl (px_pick rfl rfl) ?_
   refine wl_nil (q_n (k5 _ _ ?_))
   refine sx_sub (Sub.cons (t := 1) rfl (.cons (t := 2) rfl (.cons (t := 3) rfl (.cons (t := 6) rfl (.cons (t := 20) rfl (.nil)))))) ?_
   refine sx_condP rfl (fun h75x2 => ?_) (fun h75x2 => ?_)
   ·
    refine sx_seq fun K12 k12 => sx_region ?_
    refine sa rfl rfl rfl rfl ?_
    refine wl_nil (q_n (k12 _ _ ?_))
    refine sx_retc ?_
    refine q_r (sx_ret1 Tryd.results47 rfl ?_)
    exact ⟨(by unfold how; first | grind | simp_all), (((cb2.t c7).t c9).t c11)⟩
   ·
    refine sx_skip ?_
    refine q_n (k4 _ _ ?_)
    refine sx_seq fun K13 k13 => ?_
    refine sx_seq fun K14 k14 => sx_region ?_
    refine sm rfl rfl rfl rfl ?_
    refine sm rfl rfl rfl rfl ?_
    refine sx_pure rfl rfl rfl (px_eqS rfl rfl) ?_
    refine wl_nil (q_n (k14 _ _ ?_))
    refine sx_condP rfl (fun h78 => ?_) (fun h78 => ?_)
    ·
     refine sx_seq fun K15 k15 => sx_region ?_
     refine sa rfl rfl rfl rfl ?_
     refine wl_nil (q_n (k15 _ _ ?_))
     refine sx_retc ?_
     refine q_r (sx_ret1 Tryd.results47 rfl ?_)
     exact ⟨(by unfold how; first | grind | simp_all), (((cb2.t c7).t c9).t c11)⟩
    ·
     refine sx_skip ?_
     refine q_n (k13 _ _ ?_)
     refine sx_seq fun K16 k16 => sx_region ?_
     have f17 := fb2.ext c7
     have f18 := f17.ext c9
     have f19 := f18.ext c11
     refine sx_pure rfl rfl rfl (px_load rfl (f19.loadA (vs := [.string pv, vt]) (look_lit rfl) Tryd.isAgg71 Tryd.sizeOf71)) ?_
     refine sm rfl rfl rfl rfl ?_
     refine sm rfl rfl rfl rfl ?_
     have f20 := f6.ext c7
     have f21 := f20.ext c9
     have f22 := f21.ext c11
     refine sx_call rfl rfl Tryd.call98 (c_l10Leg f22 (by omega)) (fun v23 w23 p23 => ?_)
     obtain ⟨rfl, c23⟩ := p23
     have zw23 := c23.size
     refine sa rfl rfl rfl rfl ?_
     refine wl_nil (q_n (k16 _ _ ?_))
     refine sx_seq fun K24 k24 => ?_
     refine sx_seq fun K25 k25 => sx_region ?_
     refine sm rfl rfl rfl rfl ?_
     refine sx_pure rfl rfl rfl (px_ne rfl rfl) ?_
     refine wl_nil (q_n (k25 _ _ ?_))
     refine sx_sub (Sub.cons (t := 1) rfl (.cons (t := 2) rfl (.cons (t := 3) rfl (.cons (t := 6) rfl (.cons (t := 7) rfl (.cons (t := 29) rfl (.nil))))))) ?_
     refine sx_condP rfl (fun h82 => ?_) (fun h82 => ?_)
     ·
      refine sx_seq fun K26 k26 => sx_region ?_
      refine sm rfl rfl rfl rfl ?_
      refine sa rfl rfl rfl rfl ?_
      refine wl_nil (q_n (k26 _ _ ?_))
      refine sx_retc ?_
      refine q_r (sx_ret1 Tryd.results47 rfl ?_)
      exact ⟨(by unfold how; first | grind | simp_all), ((((cb2.t c7).t c9).t c11).t c23)⟩
     ·
      refine sx_skip ?_
      refine q_n (k24 _ _ ?_)
      refine sx_seq fun K27 k27 => ?_
      refine sx_seq fun K28 k28 => sx_region ?_
      refine sm rfl rfl rfl rfl ?_
      refine sx_pure rfl rfl rfl (px_field rfl xfld71x0) ?_
      have f29 := f19.ext c23
      refine sx_pure rfl rfl rfl (px_load rfl (f29.load1 rfl Tryd.isAgg9)) ?_
      refine sx_pure rfl rfl rfl (px_neS rfl rfl) ?_
      refine sm rfl rfl rfl rfl ?_
      refine sx_tmpP (t := 35) rfl (fun h85 => ?_) (fun h85 => ?_)
      ·
       refine sx_guardT rfl rfl rfl ?_
       refine sm rfl rfl rfl rfl ?_
       refine sx_guardT rfl rfl rfl ?_
       refine sx_pure rfl rfl rfl (px_field rfl xfld71x0) ?_
       refine sx_guardT rfl rfl rfl ?_
       refine sx_pure rfl rfl rfl (px_load rfl (f29.load1 rfl Tryd.isAgg9)) ?_
       refine sx_guardT rfl rfl rfl ?_
       refine sx_pure rfl rfl rfl (px_neS rfl rfl) ?_
       refine sx_pure rfl rfl rfl (px_pick rfl rfl) ?_
       refine sm rfl rfl rfl rfl ?_
       refine sx_tmpP (t := 41) rfl (fun h85x1 => ?_) (fun h85x1 => ?_)
       ·
        refine sx_guardT rfl rfl rfl ?_
        refine sx_pure rfl rfl rfl (px_load rfl (f29.loadA (vs := [.string pv, vt]) (look_lit rfl) Tryd.isAgg71 Tryd.sizeOf71)) ?_
        refine sx_guardT rfl rfl rfl ?_
        refine sm rfl rfl rfl rfl ?_
        refine sx_guardT rfl rfl rfl ?_
        refine sx_pure rfl rfl rfl (px_field rfl xfld71x0) ?_
        refine sx_guardT rfl rfl rfl ?_
        refine sx_pure rfl rfl rfl (px_load rfl (f29.load1 rfl Tryd.isAgg9)) ?_
        refine sx_guardT rfl rfl rfl ?_
        have f30 := f22.ext c23
        refine sx_call rfl rfl Tryd.call98 (c_l10Leg f30 (by omega)) (fun v31 w31 p31 => ?_)
        obtain ⟨rfl, c31⟩ := p31
        have zw31 := c31.size
        refine sx_guardT rfl rfl rfl ?_
        refine sx_pure rfl rfl rfl (px_ne rfl rfl) ?_
        refine sx_pure rfl rfl rfl (px_pick rfl rfl) ?_
        refine sm rfl rfl rfl rfl ?_
        refine sx_tmpP (t := 49) rfl (fun h85x2 => ?_) (fun h85x2 => ?_)
        ·
         refine sx_guardT rfl rfl rfl ?_
         have f32 := f29.ext c31
         refine sx_pure rfl rfl rfl (px_load rfl (f32.loadA (vs := [.string pv, vt]) (look_lit rfl) Tryd.isAgg71 Tryd.sizeOf71)) ?_
         refine sx_guardT rfl rfl rfl ?_
         refine sx_pure rfl rfl rfl (px_field rfl xfld71x0) ?_
         refine sx_guardT rfl rfl rfl ?_
         refine sx_pure rfl rfl rfl (px_load rfl (f32.load1 rfl Tryd.isAgg9)) ?_
         refine sx_guardT rfl rfl rfl ?_
         refine sm rfl rfl rfl rfl ?_
         refine sx_guardT rfl rfl rfl ?_
         have f33 := f30.ext c31
         refine sx_call rfl rfl Tryd.call98 (c_l10Leg f33 (by omega)) (fun v34 w34 p34 => ?_)
         obtain ⟨rfl, c34⟩ := p34
         have zw34 := c34.size
         refine sx_guardT rfl rfl rfl ?_
         refine sx_pure rfl rfl rfl (px_ne rfl rfl) ?_
         refine sx_pure rfl rfl rfl (px_pick rfl rfl) ?_
         refine wl_nil (q_n (k28 _ _ ?_))
         refine sx_sub (Sub.cons (t := 6) rfl (.cons (t := 56) rfl (.nil))) ?_
         refine sx_condP rfl (fun h85x3 => ?_) (fun h85x3 => ?_)
         ·
          refine sx_seq fun K35 k35 => sx_region ?_
          refine sa rfl rfl rfl rfl ?_
          refine wl_nil (q_n (k35 _ _ ?_))
          refine sx_retc ?_
          refine q_r (sx_ret1 Tryd.results47 rfl ?_)
          exact ⟨(by unfold how; first | grind | simp_all), ((((((cb2.t c7).t c9).t c11).t c23).t c31).t c34)⟩
         ·
          refine sx_skip ?_
          refine q_n (k27 _ _ ?_)
          refine sx_seq fun K36 k36 => sx_region ?_
          refine sa rfl rfl rfl rfl ?_
          refine wl_nil (q_n (k36 _ _ ?_))
          refine sx_retc ?_
          refine sx_ret1 Tryd.results47 rfl ?_
          exact ⟨(by unfold how; first | grind | simp_all), ((((((cb2.t c7).t c9).t c11).t c23).t c31).t c34)⟩
        ·
         refine sx_guardF rfl rfl rfl rfl rfl rfl ?_
         refine sx_guardF rfl rfl rfl rfl rfl rfl ?_
         refine sx_guardF rfl rfl rfl rfl rfl rfl ?_
         refine sx_guardF rfl rfl rfl rfl rfl rfl ?_
         refine sx_guardF rfl rfl rfl rfl rfl rfl ?_
         refine sx_guardF rfl rfl rfl rfl rfl rfl ?_
         refine sx_pure rfl rfl rfl (px_pick rfl rfl) ?_
         refine wl_nil (q_n (k28 _ _ ?_))
         refine sx_sub (Sub.cons (t := 6) rfl (.cons (t := 56) rfl (.nil))) ?_
         refine sx_condF rfl ?_
         refine sx_skip ?_
         refine q_n (k27 _ _ ?_)
         refine sx_seq fun K37 k37 => sx_region ?_
         refine sa rfl rfl rfl rfl ?_
         refine wl_nil (q_n (k37 _ _ ?_))
         refine sx_retc ?_
         refine sx_ret1 Tryd.results47 rfl ?_
         exact ⟨(by unfold how; first | grind | simp_all), (((((cb2.t c7).t c9).t c11).t c23).t c31)⟩
       ·
        refine sx_guardF rfl rfl rfl rfl rfl rfl ?_
        refine sx_guardF rfl rfl rfl rfl rfl rfl ?_
        refine sx_guardF rfl rfl rfl rfl rfl rfl ?_
        refine sx_guardF rfl rfl rfl rfl rfl rfl ?_
        refine sx_guardF rfl rfl rfl rfl rfl rfl ?_
        refine sx_guardF rfl rfl rfl rfl rfl rfl ?_
        refine sx_pure rfl rfl rfl (px_pick rfl rfl) ?_
        refine sm rfl rfl rfl rfl ?_
        refine sx_guardF rfl rfl rfl rfl rfl rfl ?_
        refine sx_guardF rfl rfl rfl rfl rfl rfl ?_
        refine sx_guardF rfl rfl rfl rfl rfl rfl ?_
        refine sx_guardF rfl rfl rfl rfl rfl rfl ?_
        refine sx_guardF rfl rfl rfl rfl rfl rfl ?_
        refine sx_guardF rfl rfl rfl rfl rfl rfl ?_
        refine sx_pure rfl rfl rfl (px_pick rfl rfl) ?_
        refine wl_nil (q_n (k28 _ _ ?_))
        refine sx_sub (Sub.cons (t := 6) rfl (.cons (t := 56) rfl (.nil))) ?_
        refine sx_condF rfl ?_
        refine sx_skip ?_
        refine q_n (k27 _ _ ?_)
        refine sx_seq fun K38 k38 => sx_region ?_
        refine sa rfl rfl rfl rfl ?_
        refine wl_nil (q_n (k38 _ _ ?_))
        refine sx_retc ?_
        refine sx_ret1 Tryd.results47 rfl ?_
        exact ⟨(by unfold how; first | grind | simp_all), ((((cb2.t c7).t c9).t c11).t c23)⟩
      ·
       refine sx_guardF rfl rfl rfl rfl rfl rfl ?_
       refine sx_guardF rfl rfl rfl rfl rfl rfl ?_
       refine sx_guardF rfl rfl rfl rfl rfl rfl ?_
       refine sx_guardF rfl rfl rfl rfl rfl rfl ?_
       refine sx_pure rfl rfl rfl (px_pick rfl rfl) ?_
       refine sm rfl rfl rfl rfl ?_
       refine sx_guardF rfl rfl rfl rfl rfl rfl ?_
       refine sx_guardF rfl rfl rfl rfl rfl rfl ?_
       refine sx_guardF rfl rfl rfl rfl rfl rfl ?_
       refine sx_guardF rfl rfl rfl rfl rfl rfl ?_
       refine sx_guardF rfl rfl rfl rfl rfl rfl ?_
       refine sx_guardF rfl rfl rfl rfl rfl rfl ?_
       refine sx_pure rfl rfl rfl (px_pick rfl rfl) ?_
       refine sm rfl rfl rfl rfl ?_
       refine sx_guardF rfl rfl rfl rfl rfl rfl ?_
       refine sx_guardF rfl rfl rfl rfl rfl rfl ?_
       refine sx_guardF rfl rfl rfl rfl rfl rfl ?_
       refine sx_guardF rfl rfl rfl rfl rfl rfl ?_
       refine sx_guardF rfl rfl rfl rfl rfl rfl ?_
       refine sx_guardF rfl rfl rfl rfl rfl rfl ?_
       refine sx_pure rfl rfl rfl (px_pick rfl rfl) ?_
       refine wl_nil (q_n (k28 _ _ ?_))
       refine sx_sub (Sub.cons (t := 6) rfl (.cons (t := 56) rfl (.nil))) ?_
       refine sx_condF rfl ?_
       refine sx_skip ?_
       refine q_n (k27 _ _ ?_)
       refine sx_seq fun K39 k39 => sx_region ?_
       refine sa rfl rfl rfl rfl ?_
       refine wl_nil (q_n (k39 _ _ ?_))
       refine sx_retc ?_
       refine sx_ret1 Tryd.results47 rfl ?_
       exact ⟨(by unfold how; first | grind | simp_all), ((((cb2.t c7).t c9).t c11).t c23)⟩

theorem c_listed {w : World} {pv : ByteArray} {vt : Value} {lvt uvt : Nat} {ts : List Rt} {vvt : List Value} {a : ByteArray} {b : ByteArray} (hvt : RtS w lvt uvt vt ts vvt) (h63 : ts.length ≤ 4611686018427387904) :
  Ret Tryd.prog 122 [.agg #[.string pv, vt], .agg #[.string a, .string b]] w fun v w' => ∃ s, v = .tuple #[.agg #[.bool ((lst ts a b).1), s, .int .i64 ((lst ts a b).2.2.1)], .bool ((lst ts a b).2.2.2)] ∧ Sl w' (lvt) (w.heap.size) s ((lst ts a b).2.1) ∧ Chg 0 0 w w' := by
 have hvt0 := hvt.fit
 refine sx_enter Tryd.func122 rfl Tryd.ntmps122 (Nat.le_of_ble_eq_true rfl) ?_
 refine sx_seq fun K1 k1 => sx_region ?_
 refine sx_box [.string pv, vt] rfl rfl rfl (fun b2 w3 eb2 sb2 fb2 cb2 => ?_)
 have zw3 := cb2.size
 refine sx_box [.string a, .string b] rfl rfl rfl (fun b4 w5 eb4 sb4 fb4 cb4 => ?_)
 have zw5 := cb4.size
 refine sx_alloc [.bool false, (.slice none 0 0), .int .i64 0] rfl Tryd.zeroValue52 rfl (fun b6 w7 eb6 sb6 fb6 cb6 => ?_)
 have zw7 := cb6.size
 refine sa rfl rfl rfl rfl ?_
 refine wl_nil (q_n (k1 _ _ ?_))
 refine sx_seq fun K8 k8 => ?_
 refine sx_seq fun K9 k9 => sx_region ?_
 refine sx_pure rfl rfl rfl (px_field rfl xfld71x1) ?_
 have f10 := fb2.ext cb4
 have f11 := f10.ext cb6
 refine sx_pure rfl rfl rfl (px_load rfl (f11.load1 rfl Tryd.isAgg69)) ?_
 have f12 := hvt0.ext cb2
 have f13 := f12.ext cb4
 have f14 := f13.ext cb6
 refine sx_pure rfl rfl rfl (px_len rfl Tryd.underlying69 f14.sv) ?_
 refine sm rfl rfl rfl rfl ?_
 refine wl_nil (q_n (k9 _ _ ?_))
 refine sx_block ?_
 have f16 := fb4.ext cb6
 refine sx_loop (fun mm aa w' => ∃ (k : Nat), Agr 26 [(3, .pointer (some ⟨b4, 0, none⟩)), (4, .pointer (some ⟨b6, 0, none⟩)), (9, vt), (10, .int .i64 (↑(ts).length)), (11, .int .i64 ↑k)] aa ∧ Chg 0 0 w7 w' ∧ Blk w' b4 [.string a, .string b] 114 ∧ Blk w' b6 [.bool false, (.slice none 0 0), .int .i64 0] 52 ∧ (mm = ts.length - k) ∧ (k ≤ ts.length) ∧ (∀ i, i < k → ¬ ((ts.getD i rt0).1 = a ∧ (ts.getD i rt0).2.1 = b))) (_) (fun a ha => ⟨0, ha.sub (Sub.cons (t := 3) rfl (.cons (t := 4) rfl (.cons (t := 9) rfl (.cons (t := 10) (look_int (t := 10) rfl (by first | omega | simp)) (.cons (t := 11) (look_int (t := 11) rfl (by first | omega | simp)) (.nil)))))), Chg.refl _ _ _, f16, fb6, rfl, by omega, fun i hi => by omega⟩) ?_
 rintro mm aa wl15 ⟨k, hAwl15, cwl15, hb_b4, hb_b6, hm, hk, hn⟩
 refine (show cw Tryd.prog 26 _ _ _ wl15 from ?_) aa hAwl15
 clear hAwl15
 have zwl15 := cwl15.size
 refine sx_seq fun K17 k17 => sx_region ?_
 refine sx_pure rfl rfl rfl (px_lt rfl rfl) ?_
 refine wl_nil (q_n (k17 _ _ ?_))
 refine sx_seq fun K18 k18 => ?_
 refine sx_condP rfl (fun h69 => ?_) (fun h69 => ?_)
 ·
  refine sx_skip ?_
  refine q_n (k18 _ _ ?_)
  refine sx_seq fun K19 k19 => ?_
  refine sx_block ?_
  refine sx_seq fun K20 k20 => sx_region ?_
  have f21 := f14.ext cwl15
  refine sx_pure rfl rfl rfl (px_indexK (j := k) rfl rfl (by omega) Tryd.underlying69 Tryd.sizeOf54 f21.sv (by omega)) ?_
  refine sx_pure rfl rfl rfl (px_load rfl (f21.sv.loadA (rt_look f21.len (by omega)) Tryd.isAgg54 Tryd.sizeOf54)) ?_
  refine sx_alloc [.string (⟨#[]⟩), .string (⟨#[]⟩), .bool false, (.slice none 0 0), .int .i64 0] rfl Tryd.zeroValue54 rfl (fun b22 w23 eb22 sb22 fb22 cb22 => ?_)
  have zw23 := cb22.size
  have f25 := (f21.nest k (by omega)).ext cb22
  refine sx_store (vs := [.string ((ts.getD k rt0).1), .string ((ts.getD k rt0).2.1), .bool ((ts.getD k rt0).2.2.1), (vvt.getD k vz), .int .i64 ((ts.getD k rt0).2.2.2.2)]) rfl rfl fb22 rfl Tryd.sizeOf54 (Nat.le_of_ble_eq_true rfl) (one_cons rfl (one_cons rfl (one_cons rfl (one_cons f25.one (one_cons rfl one_nil))))) (fun w24 sw24 fw24 cw24 => ?_)
  have zw24 := cw24.size
  have gw24 : Blk w24 b22 [.string ((ts.getD k rt0).1), .string ((ts.getD k rt0).2.1), .bool ((ts.getD k rt0).2.2.1), (vvt.getD k vz), .int .i64 ((ts.getD k rt0).2.2.2.2)] 54 := fw24
  refine wl_nil (q_n (k20 _ _ ?_))
  refine sx_seq fun K26 k26 => sx_region ?_
  refine sx_pure rfl rfl rfl (px_field rfl xfld54x0) ?_
  refine sx_pure rfl rfl rfl (px_load rfl (gw24.load1 rfl Tryd.isAgg9)) ?_
  refine sx_pure rfl rfl rfl (px_field rfl xfld54x1) ?_
  refine sx_pure rfl rfl rfl (px_load rfl (gw24.load1 rfl Tryd.isAgg9)) ?_
  refine sx_pure rfl rfl rfl (px_build rfl (xbld114x0x1 rfl rfl _)) ?_
  have f27 := hb_b4.ext cb22
  have f28 := f27.chg cw24 (by omega)
  refine sx_pure rfl rfl rfl (px_load rfl (f28.loadA (vs := [.string a, .string b]) (look_lit rfl) Tryd.isAgg114 Tryd.sizeOf114)) ?_
  refine sx_pure rfl rfl rfl (px_eqPair rfl rfl xpair114) ?_
  refine wl_nil (q_n (k26 _ _ ?_))
  refine sx_sub (Sub.cons (t := 3) rfl (.cons (t := 4) rfl (.cons (t := 7) rfl (.cons (t := 9) rfl (.cons (t := 10) rfl (.cons (t := 11) rfl (.cons (t := 21) rfl (.nil)))))))) ?_
  refine sx_condP rfl (fun h70 => ?_) (fun h70 => ?_)
  ·
   refine sx_seq fun K29 k29 => sx_region ?_
   refine sx_pure rfl rfl rfl (px_field rfl xfld54x2) ?_
   refine sx_pure rfl rfl rfl (px_load rfl (gw24.loadA (vs := [.bool ((ts.getD k rt0).2.2.1), (vvt.getD k vz), .int .i64 ((ts.getD k rt0).2.2.2.2)]) (look_lit rfl) Tryd.isAgg52 Tryd.sizeOf52)) ?_
   have f31 := hb_b6.ext cb22
   have f32 := f31.chg cw24 (by omega)
   have f33 := f25.chg cw24 (by omega)
   refine sx_store (vs := [.bool ((ts.getD k rt0).2.2.1), (vvt.getD k vz), .int .i64 ((ts.getD k rt0).2.2.2.2)]) rfl rfl f32 rfl Tryd.sizeOf52 (Nat.le_of_ble_eq_true rfl) (one_cons rfl (one_cons f33.one (one_cons rfl one_nil))) (fun w30 sw30 fw30 cw30 => ?_)
   have zw30 := cw30.size
   have gw30 : Blk w30 b6 [.bool ((ts.getD k rt0).2.2.1), (vvt.getD k vz), .int .i64 ((ts.getD k rt0).2.2.2.2)] 52 := fw30
   refine sa rfl rfl rfl rfl ?_
   refine wl_nil (q_n (k29 _ _ ?_))
   refine sx_retc ?_
   refine q_br (q_r (q_r (q_br (q_r (sx_ret2 Tryd.results122 ⟨_, rfl, gw30.loadA (vs := [.bool ((ts.getD k rt0).2.2.1), (vvt.getD k vz), .int .i64 ((ts.getD k rt0).2.2.2.2)]) (look_lit rfl) Tryd.isAgg52 Tryd.sizeOf52⟩ rfl ?_)))))
   rw [lst_some (by omega) hn h70]
   have q34 := Chg.step (l := 0) (h := 0) (Chg.zero (l := 0) (h := 0) ((((cb2.t cb4).t cb6).t cwl15).t cb22)) cw24 (by omega)
   have q35 := Chg.step (l := 0) (h := 0) q34 cw30 (by omega)
   have f36 := f33.chg cw30 (by omega)
   exact ⟨_, rfl, (Sv.mono f36 (by omega) (by omega)), q35⟩
  ·
   refine sx_skip ?_
   refine q_bn (q_n (k19 _ _ ?_))
   refine sx_region ?_
   refine sx_pure rfl rfl rfl (px_add rfl rfl (by omega)) ?_
   refine sm rfl rfl rfl rfl ?_
   refine wl_nil ?_
   have q37 := Chg.step (l := 0) (h := 0) (Chg.zero (l := 0) (h := 0) (cwl15.t cb22)) cw24 (by omega)
   have f38 := hb_b6.ext cb22
   have f39 := f38.chg cw24 (by omega)
   exact fun a ha => ⟨_, by omega, (k + 1), ha.sub (Sub.cons (t := 3) rfl (.cons (t := 4) rfl (.cons (t := 9) rfl (.cons (t := 10) rfl (.cons (t := 11) (look_int (t := 11) rfl (by first | omega | simp)) (.nil)))))), q37, f28, f39, rfl, by omega, upto_next hn h70⟩
 ·
  refine sx_exit ?_
  refine q_e (q_e (q_bx (q_n (k8 _ _ ?_))))
  refine sx_seq fun K40 k40 => sx_region ?_
  refine sx_pure rfl rfl rfl (px_build rfl (xbld52x  _)) ?_
  refine sx_store (vs := [.bool false, (.slice none 0 0), .int .i64 0]) rfl rfl hb_b6 rfl Tryd.sizeOf52 (Nat.le_of_ble_eq_true rfl) (one_cons rfl (one_cons rfl (one_cons rfl one_nil))) (fun w41 sw41 fw41 cw41 => ?_)
  have zw41 := cw41.size
  have gw41 : Blk w41 b6 [.bool false, (.slice none 0 0), .int .i64 0] 52 := fw41
  refine sa rfl rfl rfl rfl ?_
  refine wl_nil (q_n (k40 _ _ ?_))
  refine sx_retc ?_
  refine sx_ret2 Tryd.results122 ⟨_, rfl, gw41.loadA (vs := [.bool false, (.slice none 0 0), .int .i64 0]) (look_lit rfl) Tryd.isAgg52 Tryd.sizeOf52⟩ rfl ?_
  rw [lst_none (fun i hi => hn i (by omega))]
  have q42 := Chg.step (l := 0) (h := 0) (Chg.zero (l := 0) (h := 0) (((cb2.t cb4).t cb6).t cwl15)) cw41 (by omega)
  exact ⟨_, rfl, Sv.nil _ _ _ _, q42⟩

theorem c_simple {w : World} {pv : ByteArray} {vt : Value} {lvt uvt : Nat} {ts : List Rt} {vvt : List Value} {a : ByteArray} {b : ByteArray} (hvt : RtS w lvt uvt vt ts vvt) (h63 : ts.length ≤ 4611686018427387904) :
  Ret Tryd.prog 99 [.agg #[.string pv, vt], .string a, .string b] w fun v w' => v = .int .i64 (leg ts a b) ∧ Chg 0 0 w w' := by
 have hvt0 := hvt.fit
 refine sx_enter Tryd.func99 rfl Tryd.ntmps99 (Nat.le_of_ble_eq_true rfl) ?_
 refine sx_seq fun K1 k1 => sx_region ?_
 refine sx_box [.string pv, vt] rfl rfl rfl (fun b2 w3 eb2 sb2 fb2 cb2 => ?_)
 have zw3 := cb2.size
 refine sa rfl rfl rfl rfl ?_
 refine wl_nil (q_n (k1 _ _ ?_))
 refine sx_seq fun K4 k4 => ?_
 refine sx_seq fun K5 k5 => sx_region ?_
 refine sx_pure rfl rfl rfl (px_load rfl (fb2.loadA (vs := [.string pv, vt]) (look_lit rfl) Tryd.isAgg71 Tryd.sizeOf71)) ?_
 refine sm rfl rfl rfl rfl ?_
 refine sm rfl rfl rfl rfl ?_
 refine sx_pure rfl rfl rfl (px_build rfl (xbld114x0x1 rfl rfl _)) ?_
 have f6 := hvt0.ext cb2
 refine sx_call rfl rfl Tryd.call122 (c_listed f6 (by omega)) (fun v7 w7 p7 => ?_)
 obtain ⟨s7, rfl, os_7, c7⟩ := p7
 have zw7 := c7.size
 refine sm rfl rfl rfl rfl ?_
 refine sx_pure rfl rfl rfl (px_extract (vs := [.agg #[.bool ((lst ts a b).1), s7, .int .i64 ((lst ts a b).2.2.1)], .bool ((lst ts a b).2.2.2)]) rfl rfl) ?_
 refine sx_pure rfl rfl rfl (px_extract (vs := [.agg #[.bool ((lst ts a b).1), s7, .int .i64 ((lst ts a b).2.2.1)], .bool ((lst ts a b).2.2.2)]) rfl rfl) ?_
 refine sx_alloc [.bool false, (.slice none 0 0), .int .i64 0] rfl Tryd.zeroValue52 rfl (fun b8 w9 eb8 sb8 fb8 cb8 => ?_)
 have zw9 := cb8.size
 have f11 := os_7.ext cb8
 refine sx_store (vs := [.bool ((lst ts a b).1), s7, .int .i64 ((lst ts a b).2.2.1)]) rfl rfl fb8 rfl Tryd.sizeOf52 (Nat.le_of_ble_eq_true rfl) (one_cons rfl (one_cons f11.one (one_cons rfl one_nil))) (fun w10 sw10 fw10 cw10 => ?_)
 have zw10 := cw10.size
 have gw10 : Blk w10 b8 [.bool ((lst ts a b).1), s7, .int .i64 ((lst ts a b).2.2.1)] 52 := fw10
 refine sa rfl rfl rfl rfl ?_
 refine wl_nil (q_n (k5 _ _ ?_))
 refine sx_sub (Sub.cons (t := 1) rfl (.cons (t := 2) rfl (.cons (t := 3) rfl (.cons (t := 6) rfl (.cons (t := 8) rfl (.nil)))))) ?_
 refine sx_seq fun K12 k12 => sx_region ?_
 refine sm rfl rfl rfl rfl ?_
 refine wl_nil (q_n (k12 _ _ ?_))
 refine sx_condB rfl (fun h98 => ?_) (fun h98 => ?_)
 ·
  refine sx_seq fun K13 k13 => sx_region ?_
  refine sa rfl rfl rfl rfl ?_
  refine wl_nil (q_n (k13 _ _ ?_))
  refine sx_retc ?_
  refine q_r (sx_ret1 Tryd.results99 rfl ?_)
  have q14 := Chg.step (l := 0) (h := 0) (Chg.zero (l := 0) (h := 0) ((cb2.t c7).t cb8)) cw10 (by omega)
  exact ⟨(by rw [leg_2 h98]), q14⟩
 ·
  refine sx_skip ?_
  refine q_n (k4 _ _ ?_)
  refine sx_seq fun K15 k15 => ?_
  refine sx_seq fun K16 k16 => sx_region ?_
  have f17 := fb2.ext c7
  have f18 := f17.ext cb8
  have f19 := f18.chg cw10 (by omega)
  refine sx_pure rfl rfl rfl (px_load rfl (f19.loadA (vs := [.string pv, vt]) (look_lit rfl) Tryd.isAgg71 Tryd.sizeOf71)) ?_
  refine sm rfl rfl rfl rfl ?_
  refine sm rfl rfl rfl rfl ?_
  refine sx_pure rfl rfl rfl (px_build rfl (xbld114x0x1 rfl rfl _)) ?_
  have f20 := f6.ext c7
  have f21 := f20.ext cb8
  have f22 := f21.chg cw10 (by omega)
  refine sx_call rfl rfl Tryd.call122 (c_listed f22 (by omega)) (fun v23 w23 p23 => ?_)
  obtain ⟨s23, rfl, os_23, c23⟩ := p23
  have zw23 := c23.size
  refine sm rfl rfl rfl rfl ?_
  refine sx_pure rfl rfl rfl (px_extract (vs := [.agg #[.bool ((lst ts b a).1), s23, .int .i64 ((lst ts b a).2.2.1)], .bool ((lst ts b a).2.2.2)]) rfl rfl) ?_
  refine sx_pure rfl rfl rfl (px_extract (vs := [.agg #[.bool ((lst ts b a).1), s23, .int .i64 ((lst ts b a).2.2.1)], .bool ((lst ts b a).2.2.2)]) rfl rfl) ?_
  refine sx_alloc [.bool false, (.slice none 0 0), .int .i64 0] rfl Tryd.zeroValue52 rfl (fun b24 w25 eb24 sb24 fb24 cb24 => ?_)
  have zw25 := cb24.size
  have f27 := os_23.ext cb24
  refine sx_store (vs := [.bool ((lst ts b a).1), s23, .int .i64 ((lst ts b a).2.2.1)]) rfl rfl fb24 rfl Tryd.sizeOf52 (Nat.le_of_ble_eq_true rfl) (one_cons rfl (one_cons f27.one (one_cons rfl one_nil))) (fun w26 sw26 fw26 cw26 => ?_)
  have zw26 := cw26.size
  have gw26 : Blk w26 b24 [.bool ((lst ts b a).1), s23, .int .i64 ((lst ts b a).2.2.1)] 52 := fw26
  refine sa rfl rfl rfl rfl ?_
  refine wl_nil (q_n (k16 _ _ ?_))
  refine sx_sub (Sub.cons (t := 6) rfl (.cons (t := 10) rfl (.nil))) ?_
  refine sx_seq fun K28 k28 => sx_region ?_
  refine sm rfl rfl rfl rfl ?_
  refine wl_nil (q_n (k28 _ _ ?_))
  refine sx_condB rfl (fun h101 => ?_) (fun h101 => ?_)
  ·
   refine sx_seq fun K29 k29 => sx_region ?_
   refine sa rfl rfl rfl rfl ?_
   refine wl_nil (q_n (k29 _ _ ?_))
   refine sx_retc ?_
   refine q_r (sx_ret1 Tryd.results99 rfl ?_)
   have q30 := Chg.step (l := 0) (h := 0) (Chg.zero (l := 0) (h := 0) ((cb2.t c7).t cb8)) cw10 (by omega)
   have q31 := Chg.step (l := 0) (h := 0) q30 (c23.t cb24) (by omega)
   have q32 := Chg.step (l := 0) (h := 0) q31 cw26 (by omega)
   exact ⟨(by rw [leg_3 h98 h101]), q32⟩
  ·
   refine sx_skip ?_
   refine q_n (k15 _ _ ?_)
   refine sx_seq fun K33 k33 => sx_region ?_
   refine sa rfl rfl rfl rfl ?_
   refine wl_nil (q_n (k33 _ _ ?_))
   refine sx_retc ?_
   refine sx_ret1 Tryd.results99 rfl ?_
   have q34 := Chg.step (l := 0) (h := 0) (Chg.zero (l := 0) (h := 0) ((cb2.t c7).t cb8)) cw10 (by omega)
   have q35 := Chg.step (l := 0) (h := 0) q34 (c23.t cb24) (by omega)
   have q36 := Chg.step (l := 0) (h := 0) q35 cw26 (by omega)
   exact ⟨(by rw [leg_0 h98 h101]), q36⟩

theorem c_iRateHow {w : World} {pv : ByteArray} {vt : Value} {lvt uvt : Nat} {ts : List Rt} {vvt : List Value} {a : ByteArray} {b : ByteArray} (hG0 : Glob w) (hvt : RtS w lvt uvt vt ts vvt) (h63 : ts.length ≤ 4611686018427387904) (hz : ∀ i, i < ts.length → (ts.getD i rt0).2.2.2.1.length ≤ 4611686018427387904) :
  Ret Tryd.prog 48 [.agg #[.string pv, vt], .string a, .string b] w fun v w' => v = .int .i64 (how pv ts a b) ∧ Chg 0 0 w w' := by
 have hvt0 := hvt.fit
 refine sx_enter Tryd.func48 rfl Tryd.ntmps48 (Nat.le_of_ble_eq_true rfl) ?_
 refine sx_seq fun K1 k1 => sx_region ?_
 refine sx_box [.string pv, vt] rfl rfl rfl (fun b2 w3 eb2 sb2 fb2 cb2 => ?_)
 have zw3 := cb2.size
 refine sa rfl rfl rfl rfl ?_
 refine wl_nil (q_n (k1 _ _ ?_))
 refine sx_seq fun K4 k4 => ?_
 refine sx_block ?_
 refine sx_seq fun K5 k5 => sx_region ?_
 refine sx_pure rfl rfl rfl (px_load rfl (fb2.loadA (vs := [.string pv, vt]) (look_lit rfl) Tryd.isAgg71 Tryd.sizeOf71)) ?_
 have f6 := hG0.ext cb2
 have f7 := hvt0.ext cb2
 refine sx_call rfl rfl Tryd.call43 (c_iRatesOk f6 f7 (by omega) (by first | assumption | exact fun i hi => Nat.le_trans (hzz i hi) (by omega))) (fun v8 w8 p8 => ?_)
 obtain ⟨rfl, c8⟩ := p8
 have zw8 := c8.size
 refine sx_pure rfl rfl rfl (px_notP rfl) ?_
 refine sm rfl rfl rfl rfl ?_
 refine sx_tmpP (t := 11) rfl (fun h110 => ?_) (fun h110 => ?_)
 ·
  refine sx_guardF rfl rfl rfl rfl rfl rfl ?_
  refine sx_guardF rfl rfl rfl rfl rfl rfl ?_
  refine sx_guardF rfl rfl rfl rfl rfl rfl ?_
  refine sx_pure rfl rfl rfl (px_pick rfl rfl) ?_
  refine sm rfl rfl rfl rfl ?_
  refine sx_guardF rfl rfl rfl rfl rfl rfl ?_
  refine sx_guardF rfl rfl rfl rfl rfl rfl ?_
  refine sx_guardF rfl rfl rfl rfl rfl rfl ?_
  refine sx_pure rfl rfl rfl (px_pick rfl rfl) ?_
  refine sa rfl rfl rfl rfl ?_
  refine wl_nil (q_n (k5 _ _ ?_))
  refine sx_sub (Sub.cons (t := 1) rfl (.cons (t := 2) rfl (.cons (t := 3) rfl (.cons (t := 6) rfl (.cons (t := 7) rfl (.nil)))))) ?_
  refine sx_condT rfl ?_
  refine sx_seq fun K9 k9 => sx_region ?_
  refine sa rfl rfl rfl rfl ?_
  refine wl_nil (q_n (k9 _ _ ?_))
  refine sx_retc ?_
  refine q_br (q_r (sx_ret1 Tryd.results48 rfl ?_))
  exact ⟨(by unfold how; first | grind | simp_all), (cb2.t c8)⟩
 ·
  refine sx_guardT rfl rfl rfl ?_
  refine sm rfl rfl rfl rfl ?_
  refine sx_guardT rfl rfl rfl ?_
  have f10 := f6.ext c8
  refine sx_call rfl rfl Tryd.call61 (c_iCurKnown f10) (fun v11 w11 p11 => ?_)
  obtain ⟨rfl, c11⟩ := p11
  have zw11 := c11.size
  refine sx_guardT rfl rfl rfl ?_
  refine sx_pure rfl rfl rfl (px_notP rfl) ?_
  refine sx_pure rfl rfl rfl (px_pick rfl rfl) ?_
  refine sm rfl rfl rfl rfl ?_
  refine sx_tmpP (t := 16) rfl (fun h110x1 => ?_) (fun h110x1 => ?_)
  ·
   refine sx_guardF rfl rfl rfl rfl rfl rfl ?_
   refine sx_guardF rfl rfl rfl rfl rfl rfl ?_
   refine sx_guardF rfl rfl rfl rfl rfl rfl ?_
   refine sx_pure rfl rfl rfl (px_pick rfl rfl) ?_
   refine sa rfl rfl rfl rfl ?_
   refine wl_nil (q_n (k5 _ _ ?_))
   refine sx_sub (Sub.cons (t := 1) rfl (.cons (t := 2) rfl (.cons (t := 3) rfl (.cons (t := 6) rfl (.cons (t := 7) rfl (.nil)))))) ?_
   refine sx_condT rfl ?_
   refine sx_seq fun K12 k12 => sx_region ?_
   refine sa rfl rfl rfl rfl ?_
   refine wl_nil (q_n (k12 _ _ ?_))
   refine sx_retc ?_
   refine q_br (q_r (sx_ret1 Tryd.results48 rfl ?_))
   exact ⟨(by unfold how; first | grind | simp_all), ((cb2.t c8).t c11)⟩
  ·
   refine sx_guardT rfl rfl rfl ?_
   refine sm rfl rfl rfl rfl ?_
   refine sx_guardT rfl rfl rfl ?_
   have f13 := f10.ext c11
   refine sx_call rfl rfl Tryd.call61 (c_iCurKnown f13) (fun v14 w14 p14 => ?_)
   obtain ⟨rfl, c14⟩ := p14
   have zw14 := c14.size
   refine sx_guardT rfl rfl rfl ?_
   refine sx_pure rfl rfl rfl (px_notP rfl) ?_
   refine sx_pure rfl rfl rfl (px_pick rfl rfl) ?_
   refine sa rfl rfl rfl rfl ?_
   refine wl_nil (q_n (k5 _ _ ?_))
   refine sx_sub (Sub.cons (t := 1) rfl (.cons (t := 2) rfl (.cons (t := 3) rfl (.cons (t := 6) rfl (.cons (t := 7) rfl (.nil)))))) ?_
   refine sx_condP rfl (fun h110x2 => ?_) (fun h110x2 => ?_)
   ·
    refine sx_seq fun K15 k15 => sx_region ?_
    refine sa rfl rfl rfl rfl ?_
    refine wl_nil (q_n (k15 _ _ ?_))
    refine sx_retc ?_
    refine q_br (q_r (sx_ret1 Tryd.results48 rfl ?_))
    exact ⟨(by unfold how; first | grind | simp_all), (((cb2.t c8).t c11).t c14)⟩
   ·
    refine sx_seq fun K16 k16 => sx_region ?_
    refine sm rfl rfl rfl rfl ?_
    refine sm rfl rfl rfl rfl ?_
    refine sx_pure rfl rfl rfl (px_eqS rfl rfl) ?_
    refine sa rfl rfl rfl rfl ?_
    refine wl_nil (q_n (k16 _ _ ?_))
    refine sx_condP rfl (fun h112 => ?_) (fun h112 => ?_)
    ·
     refine sx_seq fun K17 k17 => sx_region ?_
     refine sa rfl rfl rfl rfl ?_
     refine wl_nil (q_n (k17 _ _ ?_))
     refine sx_retc ?_
     refine q_br (q_r (sx_ret1 Tryd.results48 rfl ?_))
     exact ⟨(by unfold how; first | grind | simp_all), (((cb2.t c8).t c11).t c14)⟩
    ·
     refine sx_seq fun K18 k18 => sx_region ?_
     have f19 := fb2.ext c8
     have f20 := f19.ext c11
     have f21 := f20.ext c14
     refine sx_pure rfl rfl rfl (px_load rfl (f21.loadA (vs := [.string pv, vt]) (look_lit rfl) Tryd.isAgg71 Tryd.sizeOf71)) ?_
     refine sm rfl rfl rfl rfl ?_
     refine sm rfl rfl rfl rfl ?_
     have f22 := f7.ext c8
     have f23 := f22.ext c11
     have f24 := f23.ext c14
     refine sx_call rfl rfl Tryd.call99 (c_simple f24 (by omega)) (fun v25 w25 p25 => ?_)
     obtain ⟨rfl, c25⟩ := p25
     have zw25 := c25.size
     refine sx_pure rfl rfl rfl (px_ne rfl rfl) ?_
     refine sa rfl rfl rfl rfl ?_
     refine wl_nil (q_n (k18 _ _ ?_))
     refine sx_sub (Sub.cons (t := 1) rfl (.cons (t := 2) rfl (.cons (t := 3) rfl (.cons (t := 6) rfl (.cons (t := 25) rfl (.nil)))))) ?_
     refine sx_condP rfl (fun h114 => ?_) (fun h114 => ?_)
     ·
      refine sx_seq fun K26 k26 => sx_region ?_
      have f27 := f21.ext c25
      refine sx_pure rfl rfl rfl (px_load rfl (f27.loadA (vs := [.string pv, vt]) (look_lit rfl) Tryd.isAgg71 Tryd.sizeOf71)) ?_
      refine sm rfl rfl rfl rfl ?_
      refine sm rfl rfl rfl rfl ?_
      have f28 := f24.ext c25
      refine sx_call rfl rfl Tryd.call99 (c_simple f28 (by omega)) (fun v29 w29 p29 => ?_)
      obtain ⟨rfl, c29⟩ := p29
      have zw29 := c29.size
      refine sa rfl rfl rfl rfl ?_
      refine wl_nil (q_n (k26 _ _ ?_))
      refine sx_retc ?_
      refine q_br (q_r (sx_ret1 Tryd.results48 rfl ?_))
      exact ⟨(by unfold how; first | grind | simp_all), (((((cb2.t c8).t c11).t c14).t c25).t c29)⟩
     ·
      refine sx_seq fun K30 k30 => sx_region ?_
      refine sm rfl rfl rfl rfl ?_
      refine sx_pure rfl rfl rfl (px_field rfl xfld71x0) ?_
      have f31 := f21.ext c25
      refine sx_pure rfl rfl rfl (px_load rfl (f31.load1 rfl Tryd.isAgg9)) ?_
      refine sx_pure rfl rfl rfl (px_neS rfl rfl) ?_
      refine sm rfl rfl rfl rfl ?_
      refine sx_tmpP (t := 40) rfl (fun h116 => ?_) (fun h116 => ?_)
      ·
       refine sx_guardT rfl rfl rfl ?_
       refine sm rfl rfl rfl rfl ?_
       refine sx_guardT rfl rfl rfl ?_
       refine sx_pure rfl rfl rfl (px_field rfl xfld71x0) ?_
       refine sx_guardT rfl rfl rfl ?_
       refine sx_pure rfl rfl rfl (px_load rfl (f31.load1 rfl Tryd.isAgg9)) ?_
       refine sx_guardT rfl rfl rfl ?_
       refine sx_pure rfl rfl rfl (px_neS rfl rfl) ?_
       refine sx_pure rfl rfl rfl (px_pick rfl rfl) ?_
       refine sm rfl rfl rfl rfl ?_
       refine sx_tmpP (t := 46) rfl (fun h116x1 => ?_) (fun h116x1 => ?_)
       ·
        refine sx_guardT rfl rfl rfl ?_
        refine sx_pure rfl rfl rfl (px_load rfl (f31.loadA (vs := [.string pv, vt]) (look_lit rfl) Tryd.isAgg71 Tryd.sizeOf71)) ?_
        refine sx_guardT rfl rfl rfl ?_
        refine sm rfl rfl rfl rfl ?_
        refine sx_guardT rfl rfl rfl ?_
        refine sx_pure rfl rfl rfl (px_field rfl xfld71x0) ?_
        refine sx_guardT rfl rfl rfl ?_
        refine sx_pure rfl rfl rfl (px_load rfl (f31.load1 rfl Tryd.isAgg9)) ?_
        refine sx_guardT rfl rfl rfl ?_
        have f32 := f24.ext c25
        refine sx_call rfl rfl Tryd.call99 (c_simple f32 (by omega)) (fun v33 w33 p33 => ?_)
        obtain ⟨rfl, c33⟩ := p33
        have zw33 := c33.size
        refine sx_guardT rfl rfl rfl ?_
        refine sx_pure rfl rfl rfl (px_ne rfl rfl) ?_
        refine sx_pure rfl rfl rfl (px_pick rfl rfl) ?_
        refine sm rfl rfl rfl rfl ?_
        refine sx_tmpP (t := 54) rfl (fun h116x2 => ?_) (fun h116x2 => ?_)
        ·
         refine sx_guardT rfl rfl rfl ?_
         have f34 := f31.ext c33
         refine sx_pure rfl rfl rfl (px_load rfl (f34.loadA (vs := [.string pv, vt]) (look_lit rfl) Tryd.isAgg71 Tryd.sizeOf71)) ?_
         refine sx_guardT rfl rfl rfl ?_
         refine sx_pure rfl rfl rfl (px_field rfl xfld71x0) ?_
         refine sx_guardT rfl rfl rfl ?_
         refine sx_pure rfl rfl rfl (px_load rfl (f34.load1 rfl Tryd.isAgg9)) ?_
         refine sx_guardT rfl rfl rfl ?_
         refine sm rfl rfl rfl rfl ?_
         refine sx_guardT rfl rfl rfl ?_
         have f35 := f32.ext c33
         refine sx_call rfl rfl Tryd.call99 (c_simple f35 (by omega)) (fun v36 w36 p36 => ?_)
         obtain ⟨rfl, c36⟩ := p36
         have zw36 := c36.size
         refine sx_guardT rfl rfl rfl ?_
         refine sx_pure rfl rfl rfl (px_ne rfl rfl) ?_
         refine sx_pure rfl rfl rfl (px_pick rfl rfl) ?_
         refine sa rfl rfl rfl rfl ?_
         refine wl_nil (q_n (k30 _ _ ?_))
         refine sx_sub (Sub.cons (t := 6) rfl (.cons (t := 35) rfl (.nil))) ?_
         refine sx_condP rfl (fun h116x3 => ?_) (fun h116x3 => ?_)
         ·
          refine sx_seq fun K37 k37 => sx_region ?_
          refine sa rfl rfl rfl rfl ?_
          refine wl_nil (q_n (k37 _ _ ?_))
          refine sx_retc ?_
          refine q_br (q_r (sx_ret1 Tryd.results48 rfl ?_))
          exact ⟨(by unfold how; first | grind | simp_all), ((((((cb2.t c8).t c11).t c14).t c25).t c33).t c36)⟩
         ·
          refine sx_skip ?_
          refine q_bn (q_n (k4 _ _ ?_))
          refine sx_seq fun K38 k38 => sx_region ?_
          refine sa rfl rfl rfl rfl ?_
          refine wl_nil (q_n (k38 _ _ ?_))
          refine sx_retc ?_
          refine sx_ret1 Tryd.results48 rfl ?_
          exact ⟨(by unfold how; first | grind | simp_all), ((((((cb2.t c8).t c11).t c14).t c25).t c33).t c36)⟩
        ·
         refine sx_guardF rfl rfl rfl rfl rfl rfl ?_
         refine sx_guardF rfl rfl rfl rfl rfl rfl ?_
         refine sx_guardF rfl rfl rfl rfl rfl rfl ?_
         refine sx_guardF rfl rfl rfl rfl rfl rfl ?_
         refine sx_guardF rfl rfl rfl rfl rfl rfl ?_
         refine sx_guardF rfl rfl rfl rfl rfl rfl ?_
         refine sx_pure rfl rfl rfl (px_pick rfl rfl) ?_
         refine sa rfl rfl rfl rfl ?_
         refine wl_nil (q_n (k30 _ _ ?_))
         refine sx_sub (Sub.cons (t := 6) rfl (.cons (t := 35) rfl (.nil))) ?_
         refine sx_condF rfl ?_
         refine sx_skip ?_
         refine q_bn (q_n (k4 _ _ ?_))
         refine sx_seq fun K39 k39 => sx_region ?_
         refine sa rfl rfl rfl rfl ?_
         refine wl_nil (q_n (k39 _ _ ?_))
         refine sx_retc ?_
         refine sx_ret1 Tryd.results48 rfl ?_
         exact ⟨(by unfold how; first | grind | simp_all), (((((cb2.t c8).t c11).t c14).t c25).t c33)⟩
       ·
        refine sx_guardF rfl rfl rfl rfl rfl rfl ?_
        refine sx_guardF rfl rfl rfl rfl rfl rfl ?_
        refine sx_guardF rfl rfl rfl rfl rfl rfl ?_
        refine sx_guardF rfl rfl rfl rfl rfl rfl ?_
        refine sx_guardF rfl rfl rfl rfl rfl rfl ?_
        refine sx_guardF rfl rfl rfl rfl rfl rfl ?_
        refine sx_pure rfl rfl rfl (px_pick rfl rfl) ?_
        refine sm rfl rfl rfl rfl ?_
        refine sx_guardF rfl rfl rfl rfl rfl rfl ?_
        refine sx_guardF rfl rfl rfl rfl rfl rfl ?_
        refine sx_guardF rfl rfl rfl rfl rfl rfl ?_
        refine sx_guardF rfl rfl rfl rfl rfl rfl ?_
        refine sx_guardF rfl rfl rfl rfl rfl rfl ?_
        refine sx_guardF rfl rfl rfl rfl rfl rfl ?_
        refine sx_pure rfl rfl rfl (px_pick rfl rfl) ?_
        refine sa rfl rfl rfl rfl ?_
        refine wl_nil (q_n (k30 _ _ ?_))
        refine sx_sub (Sub.cons (t := 6) rfl (.cons (t := 35) rfl (.nil))) ?_
        refine sx_condF rfl ?_
        refine sx_skip ?_
        refine q_bn (q_n (k4 _ _ ?_))
        refine sx_seq fun K40 k40 => sx_region ?_
        refine sa rfl rfl rfl rfl ?_
        refine wl_nil (q_n (k40 _ _ ?_))
        refine sx_retc ?_
        refine sx_ret1 Tryd.results48 rfl ?_
        exact ⟨(by unfold how; first | grind | simp_all), ((((cb2.t c8).t c11).t c14).t c25)⟩
      ·
       refine sx_guardF rfl rfl rfl rfl rfl rfl ?_
       refine sx_guardF rfl rfl rfl rfl rfl rfl ?_
       refine sx_guardF rfl rfl rfl rfl rfl rfl ?_
       refine sx_guardF rfl rfl rfl rfl rfl rfl ?_
       refine sx_pure rfl rfl rfl (px_pick rfl rfl) ?_
       refine sm rfl rfl rfl rfl ?_
       refine sx_guardF rfl rfl rfl rfl rfl rfl ?_
       refine sx_guardF rfl rfl rfl rfl rfl rfl ?_
       refine sx_guardF rfl rfl rfl rfl rfl rfl ?_
       refine sx_guardF rfl rfl rfl rfl rfl rfl ?_
       refine sx_guardF rfl rfl rfl rfl rfl rfl ?_
       refine sx_guardF rfl rfl rfl rfl rfl rfl ?_
       refine sx_pure rfl rfl rfl (px_pick rfl rfl) ?_
       refine sm rfl rfl rfl rfl ?_
       refine sx_guardF rfl rfl rfl rfl rfl rfl ?_
       refine sx_guardF rfl rfl rfl rfl rfl rfl ?_
       refine sx_guardF rfl rfl rfl rfl rfl rfl ?_
       refine sx_guardF rfl rfl rfl rfl rfl rfl ?_
       refine sx_guardF rfl rfl rfl rfl rfl rfl ?_
       refine sx_guardF rfl rfl rfl rfl rfl rfl ?_
       refine sx_pure rfl rfl rfl (px_pick rfl rfl) ?_
       refine sa rfl rfl rfl rfl ?_
       refine wl_nil (q_n (k30 _ _ ?_))
       refine sx_sub (Sub.cons (t := 6) rfl (.cons (t := 35) rfl (.nil))) ?_
       refine sx_condF rfl ?_
       refine sx_skip ?_
       refine q_bn (q_n (k4 _ _ ?_))
       refine sx_seq fun K41 k41 => sx_region ?_
       refine sa rfl rfl rfl rfl ?_
       refine wl_nil (q_n (k41 _ _ ?_))
       refine sx_retc ?_
       refine sx_ret1 Tryd.results48 rfl ?_
       exact ⟨(by unfold how; first | grind | simp_all), ((((cb2.t c8).t c11).t c14).t c25)⟩

end Go.Proofs.YtomfgkfpihemlaaDoor
