/- Contracts of functions of the program: what each call returns, and that it changes nothing that was. Conditions: as each says. -/
import Derived.Test.YtgmoahoocakpmaaTy
import Derived.Test.YtgmoahoocakpmaaNatK
import Derived.Test.YtgmoahoocakpmaaSxW
import Derived.Test.YtgmoahoocakpmaaNatS
import Derived.Test.YtgmoahoocakpmaaSxP
import Derived.Test.YtgmoahoocakpmaaRm
set_option linter.unusedVariables false
set_option linter.unusedSimpArgs false
namespace Go.Proofs.Ytgmoahoocakpmaa
open Go Go.RowKit
set_option maxRecDepth 100000
theorem c_l01In {w : World} {n : Int} {lo : Int} {hi : Int} :
  Ret Try.prog 76 [.int .i64 n, .int .i64 lo, .int .i64 hi] w fun v w' => v = .bool (decide (lo ≤ n ∧ n ≤ hi)) ∧ Chg 0 0 w w' := by
 refine sx_enter Try.func76 rfl Try.ntmps76 (nbl rfl) ?_
 refine sx_seq fun K1 k1 => sx_region ?_
 refine av rfl rfl (wl_nil (q_n (k1 _ _ ?_)))
 refine sx_seq fun K2 k2 => sx_region ?_
 refine mv rfl rfl (mv rfl rfl (sp rfl (px_ge rfl rfl) ?_))
 refine mv rfl rfl ?_
 refine sx_tmpP (t := 10) rfl (fun h5 => ?_) (fun h5 => ?_)
 ·
  refine sx_guardT rfl rfl rfl ?_
  refine mv rfl rfl ?_
  refine sx_guardT rfl rfl rfl ?_
  refine mv rfl rfl ?_
  refine sx_guardT rfl rfl rfl ?_
  refine sp rfl (px_le rfl rfl) ?_
  refine sp rfl (px_pick rfl rfl) ?_
  refine av rfl rfl (wl_nil (q_n (k2 _ _ ?_)))
  refine sx_retc ?_
  refine sx_ret1 Try.results76 rfl ?_
  exact ⟨(by first | exact bIff (by omega) | exact bFalse (by omega) | exact bTrue (by omega)), (Chg.refl 0 0 _)⟩
 refine sx_guardF rfl rfl rfl rfl rfl rfl ?_
 refine sx_guardF rfl rfl rfl rfl rfl rfl ?_
 refine sx_guardF rfl rfl rfl rfl rfl rfl ?_
 refine sp rfl (px_pick rfl rfl) ?_
 refine av rfl rfl (wl_nil (q_n (k2 _ _ ?_)))
 refine sx_retc ?_
 refine sx_ret1 Try.results76 rfl ?_
 exact ⟨(by first | exact bIff (by omega) | exact bFalse (by omega) | exact bTrue (by omega)), (Chg.refl 0 0 _)⟩

theorem c_sNatOk {w : World} {va : Value} {lva uva : Nat} {zs : List Int} (hva : Sl w lva uva va (zs)) (h63 : zs.length ≤ 4611686018427387904) :
  Ret Try.prog 40 [va] w fun v w' => v = .bool (decide (NOk zs)) ∧ Chg 0 0 w w' := by
 have hva0 := hva.fit
 refine sx_enter Try.func40 rfl Try.ntmps40 (nbl rfl) ?_
 refine sx_seq fun K1 k1 => sx_region ?_
 refine av rfl rfl (wl_nil (q_n (k1 _ _ ?_)))
 refine sx_seq fun K2 k2 => ?_
 refine sx_seq fun K3 k3 => sx_region ?_
 refine mv rfl rfl (sp rfl (px_len rfl Try.underlying23 hva0) ?_)
 refine mv rfl rfl (wl_nil (q_n (k3 _ _ ?_)))
 refine sx_block ?_
 refine sx_loop (fun mm aa w' => ∃ (k : Nat), Agr 32 [(0, va), (5, va), (6, .int .i64 ↑zs.length), (7, .int .i64 ↑k)] aa ∧ Chg 0 0 w w' ∧ (mm = zs.length - k) ∧ (k ≤ zs.length) ∧ (∀ i, i < k → 0 ≤ zs.getD i 0 ∧ zs.getD i 0 < 1000000000)) (_) (fun a ha => ⟨0, ha.sub (Sub.c 0 rfl (.c 5 rfl (.c 6 (look_int (t := 6) rfl (by first | omega | simp)) (.c 7 (look_int (t := 7) rfl (by first | omega | simp)) .nil)))), Chg.refl _ _ _, rfl, by omega, fun i h => by omega⟩) ?_
 rintro mm aa wl4 ⟨k, hAwl4, cwl4, hm, hk, hall⟩
 refine (show cw Try.prog 32 _ _ _ wl4 from ?_) aa hAwl4
 clear hAwl4
 have zwl4 := cwl4.size
 refine sx_seq fun K5 k5 => sx_region ?_
 refine sp rfl (px_lt rfl rfl) ?_
 refine wl_nil (q_n (k5 _ _ ?_))
 refine sx_seq fun K6 k6 => ?_
 refine sx_condP rfl (fun h7 => ?_) (fun h7 => ?_)
 ·
  refine sx_skip ?_
  refine q_n (k6 _ _ ?_)
  refine sx_seq fun K7 k7 => ?_
  refine sx_block ?_
  refine sx_seq fun K8 k8 => sx_region ?_
  have f9 := hva0.ext cwl4
  refine sp rfl (px_index1 (j := k) rfl rfl (by omega) Try.underlying23 Try.sizeOf3 f9 (by omega)) ?_
  refine sp rfl (px_load rfl (f9.load1 (at_int (by omega)) Try.isAgg3)) ?_
  refine av rfl rfl (wl_nil (q_n (k8 _ _ ?_)))
  refine sx_seq fun K10 k10 => sx_region ?_
  refine mv rfl rfl (sx_call rfl rfl Try.call76 (c_l01In) (fun v11 w11 p11 => ?_))
  obtain ⟨rfl, c11⟩ := p11
  have zw11 := c11.size
  refine sp rfl (px_notP rfl) ?_
  refine wl_nil (q_n (k10 _ _ ?_))
  refine sx_condP rfl (fun h8 => ?_) (fun h8 => ?_)
  ·
   refine sx_seq fun K12 k12 => sx_region ?_
   refine av rfl rfl (wl_nil (q_n (k12 _ _ ?_)))
   refine sx_retc ?_
   refine q_br (q_r (q_r (q_br (q_r (sx_ret1 Try.results40 rfl ?_)))))
   exact ⟨bFalse (fun h => by have h1 := h.1.getD k; omega), (cwl4.t c11)⟩
  refine sx_skip ?_
  refine q_bn (q_n (k7 _ _ ?_))
  refine sx_region ?_
  refine sp rfl (px_add rfl rfl (by omega)) ?_
  refine mv rfl rfl (wl_nil ?_)
  exact fun a ha => ⟨_, by omega, (k + 1), ha.sub (Sub.c 0 rfl (.c 5 rfl (.c 6 rfl (.c 7 (look_int (t := 7) rfl (by first | omega | simp)) .nil)))), (cwl4.t c11), rfl, by omega, lm_succ hall (by omega)⟩
 refine sx_exit ?_
 refine q_e (q_e (q_bx (q_n (k2 _ _ ?_))))
 refine sx_seq fun K13 k13 => ?_
 have ek : k = zs.length := by omega
 have hz : Lm zs := lm_mem (by rw [← ek]; exact hall)
 refine sx_region ?_
 refine mv rfl rfl ?_
 have f14 := hva0.ext cwl4
 refine sp rfl (px_len rfl Try.underlying23 f14) ?_
 refine sp rfl (px_le rfl rfl) ?_
 refine mv rfl rfl ?_
 refine sx_tmpP (t := 18) rfl (fun h12 => ?_) (fun h12 => ?_)
 ·
  refine sx_guardT rfl rfl rfl ?_
  refine mv rfl rfl ?_
  refine sx_guardT rfl rfl rfl ?_
  refine sp rfl (px_len rfl Try.underlying23 f14) ?_
  refine sx_guardT rfl rfl rfl ?_
  refine sp rfl (px_eq rfl rfl) ?_
  refine sx_guardT rfl rfl rfl ?_
  refine mv rfl rfl ?_
  refine sx_tmpP (t := 22) rfl (fun h12x1 => ?_) (fun h12x1 => ?_)
  ·
   refine sx_guardF rfl rfl rfl rfl rfl rfl ?_
   refine sx_guardF rfl rfl rfl rfl rfl rfl ?_
   refine sx_guardF rfl rfl rfl rfl rfl rfl ?_
   refine sx_guardF rfl rfl rfl rfl rfl rfl ?_
   refine sx_guardF rfl rfl rfl rfl rfl rfl ?_
   refine sx_guardF rfl rfl rfl rfl rfl rfl ?_
   refine sx_guardF rfl rfl rfl rfl rfl rfl ?_
   refine sx_guardT rfl rfl rfl ?_
   refine sp rfl (px_pick rfl rfl) ?_
   refine sp rfl (px_pick rfl rfl) ?_
   refine av rfl rfl (wl_nil (q_n (k13 _ _ ?_)))
   refine sx_sub (Sub.c 2 rfl .nil) ?_
   refine sx_retc ?_
   refine sx_ret1 Try.results40 rfl ?_
   exact ⟨(by first | exact bFalse (fun h => by have h1 := h.2.1; omega) | exact bTrue (NOk_mk hz (by omega) (.inl (by omega))) | exact bIff (NOk_iff hz (by omega) (by omega))), cwl4⟩
  refine sx_guardT rfl rfl rfl ?_
  refine mv rfl rfl ?_
  refine sx_guardT rfl rfl rfl ?_
  refine mv rfl rfl ?_
  refine sx_guardT rfl rfl rfl ?_
  refine sp rfl (px_len rfl Try.underlying23 f14) ?_
  refine sx_guardT rfl rfl rfl ?_
  refine sp rfl (px_sub rfl rfl (by omega)) ?_
  refine sx_guardT rfl rfl rfl ?_
  refine sp rfl (px_index1 (j := (zs.length - 1)) rfl rfl (by omega) Try.underlying23 Try.sizeOf3 f14 (by omega)) ?_
  refine sx_guardT rfl rfl rfl ?_
  refine sp rfl (px_load rfl (f14.load1 (at_int (by omega)) Try.isAgg3)) ?_
  refine sx_guardT rfl rfl rfl ?_
  refine sp rfl (px_ne rfl rfl) ?_
  refine sx_guardT rfl rfl rfl ?_
  refine sp rfl (px_pick rfl rfl) ?_
  refine sp rfl (px_pick rfl rfl) ?_
  refine av rfl rfl (wl_nil (q_n (k13 _ _ ?_)))
  refine sx_sub (Sub.c 2 rfl .nil) ?_
  refine sx_retc ?_
  refine sx_ret1 Try.results40 rfl ?_
  exact ⟨(by first | exact bFalse (fun h => by have h1 := h.2.1; omega) | exact bTrue (NOk_mk hz (by omega) (.inl (by omega))) | exact bIff (NOk_iff hz (by omega) (by omega))), cwl4⟩
 refine sx_guardF rfl rfl rfl rfl rfl rfl ?_
 refine sx_guardF rfl rfl rfl rfl rfl rfl ?_
 refine sx_guardF rfl rfl rfl rfl rfl rfl ?_
 refine sx_guardF rfl rfl rfl rfl rfl rfl ?_
 refine sx_guardFU rfl rfl rfl rfl rfl ?_
 refine sx_guardFU rfl rfl rfl rfl rfl ?_
 refine sx_guardFU rfl rfl rfl rfl rfl ?_
 refine sx_guardFU rfl rfl rfl rfl rfl ?_
 refine sx_guardFU rfl rfl rfl rfl rfl ?_
 refine sx_guardFU rfl rfl rfl rfl rfl ?_
 refine sx_guardFU rfl rfl rfl rfl rfl ?_
 refine sx_guardF rfl rfl rfl rfl rfl rfl ?_
 refine sp rfl (px_pick rfl rfl) ?_
 refine av rfl rfl (wl_nil (q_n (k13 _ _ ?_)))
 refine sx_sub (Sub.c 2 rfl .nil) ?_
 refine sx_retc ?_
 refine sx_ret1 Try.results40 rfl ?_
 exact ⟨(by first | exact bFalse (fun h => by have h1 := h.2.1; omega) | exact bTrue (NOk_mk hz (by omega) (.inl (by omega))) | exact bIff (NOk_iff hz (by omega) (by omega))), cwl4⟩

theorem c_sIntOk {w : World} {n1 : Bool} {v1 : Value} {lv1 uv1 : Nat} {z1 : List Int} (hv1 : Sl w lv1 uv1 v1 (z1)) (h63 : z1.length ≤ 4611686018427387904) :
  Ret Try.prog 53 [.agg #[.bool n1, v1]] w fun v w' => v = .bool (decide (IOk n1 z1)) ∧ Chg 0 0 w w' := by
 have hv10 := hv1.fit
 refine sx_enter Try.func53 rfl Try.ntmps53 (nbl rfl) ?_
 refine sx_seq fun K1 k1 => sx_region ?_
 refine sx_box [.bool n1, v1] rfl rfl rfl (fun b2 w3 eb2 sb2 fb2 cb2 => ?_)
 have zw3 := cb2.size
 refine av rfl rfl (wl_nil (q_n (k1 _ _ ?_)))
 refine sx_seq fun K4 k4 => sx_region ?_
 refine sp rfl (px_field rfl xfld25x1) ?_
 refine sp rfl (px_load rfl (fb2.load1 rfl Try.isAgg23)) ?_
 have f5 := hv10.ext cb2
 refine sx_call rfl rfl Try.call40 (c_sNatOk f5 (by omega)) (fun v6 w6 p6 => ?_)
 obtain ⟨rfl, c6⟩ := p6
 have zw6 := c6.size
 refine mv rfl rfl ?_
 refine sx_tmpP (t := 6) rfl (fun h6 => ?_) (fun h6 => ?_)
 ·
  refine sx_guardT rfl rfl rfl ?_
  refine sp rfl (px_field rfl xfld25x0) ?_
  refine sx_guardT rfl rfl rfl ?_
  have f7 := fb2.ext c6
  refine sp rfl (px_load rfl (f7.load1 rfl Try.isAgg4)) ?_
  refine sx_guardT rfl rfl rfl ?_
  refine sp rfl (px_not rfl) ?_
  refine sx_guardT rfl rfl rfl ?_
  refine mv rfl rfl ?_
  refine sx_tmpB (t := 10) rfl (fun h6x1 => ?_) (fun h6x1 => ?_)
  ·
   refine sx_guardF rfl rfl rfl rfl rfl rfl ?_
   refine sx_guardF rfl rfl rfl rfl rfl rfl ?_
   refine sx_guardF rfl rfl rfl rfl rfl rfl ?_
   refine sx_guardF rfl rfl rfl rfl rfl rfl ?_
   refine sx_guardT rfl rfl rfl ?_
   refine sp rfl (px_pick rfl rfl) ?_
   refine sp rfl (px_pick rfl rfl) ?_
   refine av rfl rfl (wl_nil (q_n (k4 _ _ ?_)))
   refine sx_sub (Sub.c 2 rfl .nil) ?_
   refine sx_retc ?_
   refine sx_ret1 Try.results53 rfl ?_
   exact ⟨(by first | exact bTrue (by grind [IOk]) | exact bFalse (by grind [IOk]) | exact bIff (by grind [IOk])), (cb2.t c6)⟩
  refine sx_guardT rfl rfl rfl ?_
  refine sp rfl (px_field rfl xfld25x1) ?_
  refine sx_guardT rfl rfl rfl ?_
  refine sp rfl (px_load rfl (f7.load1 rfl Try.isAgg23)) ?_
  refine sx_guardT rfl rfl rfl ?_
  have f8 := f5.ext c6
  refine sp rfl (px_len rfl Try.underlying23 f8) ?_
  refine sx_guardT rfl rfl rfl ?_
  refine sp rfl (px_gt rfl rfl) ?_
  refine sx_guardT rfl rfl rfl ?_
  refine sp rfl (px_pick rfl rfl) ?_
  refine sp rfl (px_pick rfl rfl) ?_
  refine av rfl rfl (wl_nil (q_n (k4 _ _ ?_)))
  refine sx_sub (Sub.c 2 rfl .nil) ?_
  refine sx_retc ?_
  refine sx_ret1 Try.results53 rfl ?_
  exact ⟨(by first | exact bTrue (by grind [IOk]) | exact bFalse (by grind [IOk]) | exact bIff (by grind [IOk])), (cb2.t c6)⟩
 refine sx_guardF rfl rfl rfl rfl rfl rfl ?_
 refine sx_guardF rfl rfl rfl rfl rfl rfl ?_
 refine sx_guardF rfl rfl rfl rfl rfl rfl ?_
 refine sx_guardF rfl rfl rfl rfl rfl rfl ?_
 refine sx_guardFU rfl rfl rfl rfl rfl ?_
 refine sx_guardFU rfl rfl rfl rfl rfl ?_
 refine sx_guardFU rfl rfl rfl rfl rfl ?_
 refine sx_guardFU rfl rfl rfl rfl rfl ?_
 refine sx_guardF rfl rfl rfl rfl rfl rfl ?_
 refine sp rfl (px_pick rfl rfl) ?_
 refine av rfl rfl (wl_nil (q_n (k4 _ _ ?_)))
 refine sx_sub (Sub.c 2 rfl .nil) ?_
 refine sx_retc ?_
 refine sx_ret1 Try.results53 rfl ?_
 exact ⟨(by first | exact bTrue (by grind [IOk]) | exact bFalse (by grind [IOk]) | exact bIff (by grind [IOk])), (cb2.t c6)⟩

theorem c_l02Trim {w : World} {va : Value} {lva uva : Nat} {zs : List Int} (hva : OwnI w lva uva va intT (zs)) (hz : Lm zs) (h63 : zs.length ≤ 1000000) :
  Ret Try.prog 82 [va] w fun v w' => ∃ s, v = s ∧ OwnI w' (lva) (uva) s intT (dg (vl zs)) ∧ Chg 0 0 w w' := by
 refine sx_enter Try.func82 rfl Try.ntmps82 (nbl rfl) ?_
 refine sx_seq fun K1 k1 => sx_region ?_
 refine av rfl rfl (wl_nil (q_n (k1 _ _ ?_)))
 refine sx_seq fun K2 k2 => sx_region ?_
 refine mv rfl rfl (sp rfl (px_len rfl Try.underlying23 hva.sv) ?_)
 refine av rfl rfl (wl_nil (q_n (k2 _ _ ?_)))
 refine sx_seq fun K3 k3 => ?_
 refine sx_block ?_
 refine sx_loop (fun mm aa w' => ∃ (k : Nat), Agr 21 [(0, va), (3, .int .i64 ↑k)] aa ∧ Chg 0 0 w w' ∧ (mm = k) ∧ (k ≤ zs.length) ∧ (vl (zs.take k) = vl zs)) (_) (fun a ha => ⟨zs.length, ha.sub (Sub.c 0 rfl (.c 3 (look_int (t := 3) rfl (by first | omega | simp)) .nil)), Chg.refl _ _ _, rfl, by omega, vl_take_all zs⟩) ?_
 rintro mm aa wl4 ⟨k, hAwl4, cwl4, hm, hk, hv⟩
 refine (show cw Try.prog 21 _ _ _ wl4 from ?_) aa hAwl4
 clear hAwl4
 have zwl4 := cwl4.size
 refine sx_seq fun K5 k5 => ?_
 refine sx_seq fun K6 k6 => sx_region ?_
 refine mv rfl rfl (sp rfl (px_gt rfl rfl) ?_)
 refine mv rfl rfl ?_
 refine sx_tmpP (t := 8) rfl (fun h17 => ?_) (fun h17 => ?_)
 ·
  refine sx_guardT rfl rfl rfl ?_
  refine mv rfl rfl ?_
  refine sx_guardT rfl rfl rfl ?_
  refine mv rfl rfl ?_
  refine sx_guardT rfl rfl rfl ?_
  refine sp rfl (px_sub rfl rfl (by omega)) ?_
  refine sx_guardT rfl rfl rfl ?_
  have f7 := hva.ext cwl4
  refine sp rfl (px_index1 (j := (k - 1)) rfl rfl (by omega) Try.underlying23 Try.sizeOf3 f7.sv (by omega)) ?_
  refine sx_guardT rfl rfl rfl ?_
  refine sp rfl (px_load rfl (f7.sv.load1 (at_int (by omega)) Try.isAgg3)) ?_
  refine sx_guardT rfl rfl rfl ?_
  refine sp rfl (px_eq rfl rfl) ?_
  refine sp rfl (px_pick rfl rfl) ?_
  refine wl_nil (q_n (k6 _ _ ?_))
  refine sx_condP rfl (fun h17x1 => ?_) (fun h17x1 => ?_)
  ·
   refine sx_skip ?_
   refine q_n (k5 _ _ ?_)
   refine sx_block ?_
   refine sx_region ?_
   refine mv rfl rfl (sp rfl (px_sub rfl rfl (by omega)) ?_)
   refine av rfl rfl (wl_nil ?_)
   exact q_bn (fun a ha => ⟨_, by omega, (k - 1), ha.sub (Sub.c 0 rfl (.c 3 (look_int (t := 3) rfl (by first | omega | simp)) .nil)), cwl4, rfl, by omega, trim_step (by omega) hk (by rw [getD_take (by omega)]; exact h17x1) hv⟩)
  refine sx_exit ?_
  refine q_e (q_e (q_bx (q_n (k3 _ _ ?_))))
  refine sx_seq fun K8 k8 => sx_region ?_
  refine mv rfl rfl (mv rfl rfl (sp rfl (px_sliceTo (h := k) rfl rfl (by omega) Try.underlying23 Try.sizeOf3 f7.sv (by omega)) ?_))
  refine av rfl rfl (wl_nil (q_n (k8 _ _ ?_)))
  refine sx_sub (Sub.c 2 rfl .nil) ?_
  refine sx_retc ?_
  refine sx_ret1 Try.results82 rfl ?_
  have hd := trim_done hz hk hv (by first | exact .inl (by omega) | exact .inr (by rw [getD_take (by omega)]; assumption))
  rw [← hd]
  exact ⟨_, rfl, (Own.takeI f7 (h := k) (by omega)), cwl4⟩
 refine sx_guardF rfl rfl rfl rfl rfl rfl ?_
 refine sx_guardF rfl rfl rfl rfl rfl rfl ?_
 refine sx_guardF rfl rfl rfl rfl rfl rfl ?_
 refine sx_guardF rfl rfl rfl rfl rfl rfl ?_
 refine sx_guardF rfl rfl rfl rfl rfl rfl ?_
 refine sx_guardF rfl rfl rfl rfl rfl rfl ?_
 refine sp rfl (px_pick rfl rfl) ?_
 refine wl_nil (q_n (k6 _ _ ?_))
 refine sx_condF rfl ?_
 refine sx_exit ?_
 refine q_e (q_e (q_bx (q_n (k3 _ _ ?_))))
 refine sx_seq fun K9 k9 => sx_region ?_
 refine mv rfl rfl (mv rfl rfl ?_)
 have f10 := hva.ext cwl4
 refine sp rfl (px_sliceTo (h := k) rfl rfl (by omega) Try.underlying23 Try.sizeOf3 f10.sv (by omega)) ?_
 refine av rfl rfl (wl_nil (q_n (k9 _ _ ?_)))
 refine sx_sub (Sub.c 2 rfl .nil) ?_
 refine sx_retc ?_
 refine sx_ret1 Try.results82 rfl ?_
 have hd := trim_done hz hk hv (by first | exact .inl (by omega) | exact .inr (by rw [getD_take (by omega)]; assumption))
 rw [← hd]
 exact ⟨_, rfl, (Own.takeI f10 (h := k) (by omega)), cwl4⟩

theorem c_l02TrimS {w : World} {va : Value} {lva uva : Nat} {zs : List Int} (hva : Sl w lva uva va (zs)) (hz : Lm zs) (h63 : zs.length ≤ 1000000) :
  Ret Try.prog 82 [va] w fun v w' => ∃ s, v = s ∧ Sl w' (lva) (uva) s (dg (vl zs)) ∧ Chg 0 0 w w' := by
 refine sx_enter Try.func82 rfl Try.ntmps82 (nbl rfl) ?_
 refine sx_seq fun K1 k1 => sx_region ?_
 refine av rfl rfl (wl_nil (q_n (k1 _ _ ?_)))
 refine sx_seq fun K2 k2 => sx_region ?_
 refine mv rfl rfl (sp rfl (px_len rfl Try.underlying23 hva) ?_)
 refine av rfl rfl (wl_nil (q_n (k2 _ _ ?_)))
 refine sx_seq fun K3 k3 => ?_
 refine sx_block ?_
 refine sx_loop (fun mm aa w' => ∃ (k : Nat), Agr 21 [(0, va), (3, .int .i64 ↑k)] aa ∧ Chg 0 0 w w' ∧ (mm = k) ∧ (k ≤ zs.length) ∧ (vl (zs.take k) = vl zs)) (_) (fun a ha => ⟨zs.length, ha.sub (Sub.c 0 rfl (.c 3 (look_int (t := 3) rfl (by first | omega | simp)) .nil)), Chg.refl _ _ _, rfl, by omega, vl_take_all zs⟩) ?_
 rintro mm aa wl4 ⟨k, hAwl4, cwl4, hm, hk, hv⟩
 refine (show cw Try.prog 21 _ _ _ wl4 from ?_) aa hAwl4
 clear hAwl4
 have zwl4 := cwl4.size
 refine sx_seq fun K5 k5 => ?_
 refine sx_seq fun K6 k6 => sx_region ?_
 refine mv rfl rfl (sp rfl (px_gt rfl rfl) ?_)
 refine mv rfl rfl ?_
 refine sx_tmpP (t := 8) rfl (fun h17 => ?_) (fun h17 => ?_)
 ·
  refine sx_guardT rfl rfl rfl ?_
  refine mv rfl rfl ?_
  refine sx_guardT rfl rfl rfl ?_
  refine mv rfl rfl ?_
  refine sx_guardT rfl rfl rfl ?_
  refine sp rfl (px_sub rfl rfl (by omega)) ?_
  refine sx_guardT rfl rfl rfl ?_
  have f7 := hva.ext cwl4
  refine sp rfl (px_index1 (j := (k - 1)) rfl rfl (by omega) Try.underlying23 Try.sizeOf3 f7 (by omega)) ?_
  refine sx_guardT rfl rfl rfl ?_
  refine sp rfl (px_load rfl (f7.load1 (at_int (by omega)) Try.isAgg3)) ?_
  refine sx_guardT rfl rfl rfl ?_
  refine sp rfl (px_eq rfl rfl) ?_
  refine sp rfl (px_pick rfl rfl) ?_
  refine wl_nil (q_n (k6 _ _ ?_))
  refine sx_condP rfl (fun h17x1 => ?_) (fun h17x1 => ?_)
  ·
   refine sx_skip ?_
   refine q_n (k5 _ _ ?_)
   refine sx_block ?_
   refine sx_region ?_
   refine mv rfl rfl (sp rfl (px_sub rfl rfl (by omega)) ?_)
   refine av rfl rfl (wl_nil ?_)
   exact q_bn (fun a ha => ⟨_, by omega, (k - 1), ha.sub (Sub.c 0 rfl (.c 3 (look_int (t := 3) rfl (by first | omega | simp)) .nil)), cwl4, rfl, by omega, trim_step (by omega) hk (by rw [getD_take (by omega)]; exact h17x1) hv⟩)
  refine sx_exit ?_
  refine q_e (q_e (q_bx (q_n (k3 _ _ ?_))))
  refine sx_seq fun K8 k8 => sx_region ?_
  refine mv rfl rfl (mv rfl rfl (sp rfl (px_sliceTo (h := k) rfl rfl (by omega) Try.underlying23 Try.sizeOf3 f7 (by omega)) ?_))
  refine av rfl rfl (wl_nil (q_n (k8 _ _ ?_)))
  refine sx_sub (Sub.c 2 rfl .nil) ?_
  refine sx_retc ?_
  refine sx_ret1 Try.results82 rfl ?_
  have hd := trim_done hz hk hv (by first | exact .inl (by omega) | exact .inr (by rw [getD_take (by omega)]; assumption))
  rw [← hd]
  exact ⟨_, rfl, (Sv.takeI f7 (h := k) (by omega)), cwl4⟩
 refine sx_guardF rfl rfl rfl rfl rfl rfl ?_
 refine sx_guardF rfl rfl rfl rfl rfl rfl ?_
 refine sx_guardF rfl rfl rfl rfl rfl rfl ?_
 refine sx_guardF rfl rfl rfl rfl rfl rfl ?_
 refine sx_guardF rfl rfl rfl rfl rfl rfl ?_
 refine sx_guardF rfl rfl rfl rfl rfl rfl ?_
 refine sp rfl (px_pick rfl rfl) ?_
 refine wl_nil (q_n (k6 _ _ ?_))
 refine sx_condF rfl ?_
 refine sx_exit ?_
 refine q_e (q_e (q_bx (q_n (k3 _ _ ?_))))
 refine sx_seq fun K9 k9 => sx_region ?_
 refine mv rfl rfl (mv rfl rfl ?_)
 have f10 := hva.ext cwl4
 refine sp rfl (px_sliceTo (h := k) rfl rfl (by omega) Try.underlying23 Try.sizeOf3 f10 (by omega)) ?_
 refine av rfl rfl (wl_nil (q_n (k9 _ _ ?_)))
 refine sx_sub (Sub.c 2 rfl .nil) ?_
 refine sx_retc ?_
 refine sx_ret1 Try.results82 rfl ?_
 have hd := trim_done hz hk hv (by first | exact .inl (by omega) | exact .inr (by rw [getD_take (by omega)]; assumption))
 rw [← hd]
 exact ⟨_, rfl, (Sv.takeI f10 (h := k) (by omega)), cwl4⟩

theorem c_l02TrimD {w : World} {va : Value} {lva uva : Nat} {m : Nat} (hva : Sl w lva uva va (dg m)) (h63 : (dg m).length ≤ 1000000) :
  Ret Try.prog 82 [va] w fun v w' => ∃ s, v = s ∧ Sl w' (lva) (uva) s (dg m) ∧ Chg 0 0 w w' := by
 simpa only [vl_dg] using c_l02TrimS hva (Lm_dg m) h63

theorem c_l03Small {w : World} {va : Value} {lva uva : Nat} {m : Nat} {d : Int} (hva : Sl w lva uva va (dg m)) (hbm : (dg m).length ≤ 1000) (hd : 1 ≤ d ∧ d ≤ 999999999) :
  Ret Try.prog 89 [va, .int .i64 d] w fun v w' => ∃ s, v = .tuple #[s, .int .i64 (((m % (d).toNat : Nat) : Int))] ∧ OwnI w' w.heap.size w'.heap.size s intT (dg (m / (d).toNat)) ∧ Chg 0 0 w w' := by
 have hva0 := hva.fit
 refine sx_enter Try.func89 rfl Try.ntmps89 (nbl rfl) ?_
 refine sx_seq fun K1 k1 => sx_region ?_
 refine av rfl rfl (av rfl rfl (wl_nil (q_n (k1 _ _ ?_))))
 refine sx_seq fun K2 k2 => sx_region ?_
 refine mv rfl rfl (sp rfl (px_len rfl Try.underlying23 hva0) ?_)
 refine sx_make (c := (dg m).length) rfl xelt23 (rfl) (rfl) (by omega) (by unfold maxLen; omega) (fun s3 ws3 fs3 cs3 ls3 => ?_)
 have ns3 := fs3.made
 have zws3 := cs3.size
 refine av rfl rfl (wl_nil (q_n (k2 _ _ ?_)))
 refine sx_seq fun K4 k4 => sx_region ?_
 refine av rfl rfl (wl_nil (q_n (k4 _ _ ?_)))
 refine sx_seq fun K5 k5 => ?_
 refine sx_seq fun K6 k6 => sx_region ?_
 refine mv rfl rfl ?_
 have f7 := hva0.ext cs3
 refine sp rfl (px_len rfl Try.underlying23 f7) ?_
 refine sp rfl (px_sub rfl rfl (by omega)) ?_
 refine av rfl rfl (wl_nil (q_n (k6 _ _ ?_)))
 refine sx_block ?_
 refine sx_loop (fun mm aa w' => ∃ (k : Nat) (os : List Int) (r : Int), Agr 39 [(0, va), (1, .int .i64 d), (6, s3), (7, .int .i64 r), (8, .int .i64 (↑k - 1))] aa ∧ Chg w.heap.size ws3.heap.size ws3 w' ∧ Own w' w.heap.size ws3.heap.size s3 intT os.length 1 (os.map (Value.int .i64)) ∧ (mm = k) ∧ (k ≤ (dg m).length) ∧ (os.length = (dg m).length) ∧ (Lm os) ∧ (0 ≤ r ∧ r < d) ∧ (vl ((dg m).drop k) = d.toNat * vl (os.drop k) + r.toNat)) (_) (fun a ha => ⟨(dg m).length, List.replicate (dg m).length 0, 0, ha.sub (Sub.c 0 rfl (.c 1 rfl (.c 6 rfl (.c 7 (look_int (t := 7) rfl (by first | omega | simp)) (.c 8 (look_int (t := 8) rfl (by first | omega | simp)) .nil))))), Chg.refl _ _ _, ns3, rfl, by omega, by simp, Lm.replicate _, by omega, by simp [vl]⟩) ?_
 rintro mm aa wl8 ⟨k, os, r, hAwl8, cwl8, hs_s3, hm, hk, hos, hlm, hr, hv⟩
 refine (show cw Try.prog 39 _ _ _ wl8 from ?_) aa hAwl8
 clear hAwl8
 have zwl8 := cwl8.size
 have am := (Lm_dg m).getD (k - 1)
 have hq := small_q hr.1 hr.2 am.1 am.2
 refine sx_seq fun K9 k9 => ?_
 refine sx_seq fun K10 k10 => sx_region ?_
 refine mv rfl rfl (sp rfl (px_ge rfl rfl) ?_)
 refine wl_nil (q_n (k10 _ _ ?_))
 refine sx_condP rfl (fun h8 => ?_) (fun h8 => ?_)
 ·
  refine sx_skip ?_
  refine q_n (k9 _ _ ?_)
  refine sx_seq fun K11 k11 => ?_
  refine sx_block ?_
  refine sx_seq fun K12 k12 => sx_region ?_
  refine mv rfl rfl (sp rfl (px_mul rfl rfl (by omega)) ?_)
  refine mv rfl rfl (mv rfl rfl ?_)
  have f13 := f7.chg cwl8 (by omega)
  refine sp rfl (px_index1 (j := (k - 1)) rfl rfl (by omega) Try.underlying23 Try.sizeOf3 f13 (by omega)) ?_
  refine sp rfl (px_load rfl (f13.load1 (at_int (by omega)) Try.isAgg3)) ?_
  refine sp rfl (px_add rfl rfl (by omega)) ?_
  refine av rfl rfl (wl_nil (q_n (k12 _ _ ?_)))
  refine sx_sub (Sub.c 0 rfl (.c 1 rfl (.c 6 rfl (.c 7 rfl (.c 8 rfl (.c 9 rfl .nil)))))) ?_
  refine sx_seq fun K14 k14 => sx_region ?_
  refine mv rfl rfl (mv rfl rfl (mv rfl rfl (mv rfl rfl (sp rfl (px_quo rfl rfl (by omega) (by omega) (by omega)) ?_))))
  refine sp rfl (px_index1 (j := (k - 1)) rfl rfl (by omega) Try.underlying23 Try.sizeOf3 hs_s3.sv (by omega)) ?_
  refine sx_storeO rfl rfl hs_s3 (by first | omega | (simp only [List.length_map]; omega)) Try.sizeOf3 rfl (fun w15 sw15 fw15 cw15 => ?_)
  have zw15 := cw15.size
  have nw15 := fw15.set
  refine wl_nil (q_n (k14 _ _ ?_))
  refine sx_region ?_
  refine mv rfl rfl (mv rfl rfl (sp rfl (px_rem rfl rfl (by omega) (by omega)) ?_))
  refine av rfl rfl (wl_nil ?_)
  refine q_bn (q_n (k11 _ _ ?_))
  refine sx_sub (Sub.c 0 rfl (.c 1 rfl (.c 6 rfl (.c 7 rfl (.c 8 rfl .nil))))) ?_
  refine sx_region ?_
  refine mv rfl rfl (sp rfl (px_sub rfl rfl (by omega)) ?_)
  refine av rfl rfl (wl_nil ?_)
  have q16 := Chg.step (l := w.heap.size) (h := ws3.heap.size) cwl8 cw15 (by omega)
  have hst := small_step (X := ((r * 1000000000) + ((dg m).getD (k - 1) 0))) (by omega) (by omega) (by omega) hr am rfl hv
  exact fun a ha => ⟨_, by omega, (k - 1), ((os).set (k - 1) (((r * 1000000000) + ((dg m).getD (k - 1) 0)) / d)), (((r * 1000000000) + ((dg m).getD (k - 1) 0)) % d), ha.sub (Sub.c 0 rfl (.c 1 rfl (.c 6 rfl (.c 7 (look_int (t := 7) rfl (by first | omega | simp)) (.c 8 (look_int (t := 8) rfl (by first | omega | simp)) .nil))))), q16, (nw15.mono (by omega) (by omega)), rfl, by omega, by simpa using hos, hlm.set _ hq.1 hq.2.1, hq.2.2, hst⟩
 refine sx_exit ?_
 refine q_e (q_e (q_bx (q_n (k5 _ _ ?_))))
 refine sx_seq fun K17 k17 => sx_region ?_
 refine mv rfl rfl (sx_call rfl rfl Try.call82 (c_l02Trim hs_s3 (by assumption) (by first | omega | (simp only [List.length_append, List.length_set, List.length_replicate, List.length_cons, List.length_nil] at *; omega))) (fun v18 w18 p18 => ?_))
 obtain ⟨s18, rfl, os_18, c18⟩ := p18
 have zw18 := c18.size
 refine mv rfl rfl (av rfl rfl (av rfl rfl (wl_nil (q_n (k17 _ _ ?_)))))
 refine sx_retc ?_
 refine sx_ret2 Try.results89 rfl rfl ?_
 have e0 : k = 0 := by omega
 subst e0
 have he := div_end (m := m) (d := d.toNat) (v := vl os) (r := r.toNat) (by rw [List.drop_zero, List.drop_zero, vl_dg] at hv; exact hv) (show r.toNat < d.toNat by omega)
 have hr2 := os_18
 rw [he.1] at hr2
 have er : r = ((m % d.toNat : Nat) : Int) := by omega
 have q19 := Chg.step (l := 0) (h := 0) (Chg.zero (l := 0) (h := 0) cs3) cwl8 (by omega)
 have q20 := Chg.step (l := 0) (h := 0) q19 c18 (by omega)
 exact ⟨_, by rw [er], hr2.mono (by omega) (by omega), q20⟩

theorem c_sNatOf {w : World} {n : Int} (hn : 0 ≤ n ∧ n ≤ 9223372036854775807) :
  Ret Try.prog 56 [.int .i64 n] w fun v w' => ∃ s, v = s ∧ OwnI w' w.heap.size w'.heap.size s intT (dg (n).toNat) ∧ Chg 0 0 w w' := by
 have l0 := len_u64 (n := n) (by omega)
 refine sx_enter Try.func56 rfl Try.ntmps56 (nbl rfl) ?_
 refine sx_seq fun K1 k1 => sx_region ?_
 refine av rfl rfl (wl_nil (q_n (k1 _ _ ?_)))
 refine sx_seq fun K2 k2 => sx_region ?_
 refine sx_lit0 rfl xelt23 (fun s3 ws3 ss3 fs3 cs3 => ?_)
 have zws3 := cs3.size
 refine av rfl rfl (wl_nil (q_n (k2 _ _ ?_)))
 refine sx_seq fun K4 k4 => ?_
 refine sx_block ?_
 refine sx_loop (fun mm aa w' => ∃ (s : Value) (os : List Int) (m : Int), Agr 15 [(0, .int .i64 m), (3, s)] aa ∧ Chg w.heap.size ws3.heap.size ws3 w' ∧ Own w' w.heap.size w'.heap.size s intT os.length 1 (os.map (Value.int .i64)) ∧ (mm = m.toNat) ∧ (Lm os) ∧ (0 ≤ m ∧ m ≤ n) ∧ (vl os + Bs ^ os.length * m.toNat = n.toNat) ∧ (os.length + (dg m.toNat).length = (dg n.toNat).length) ∧ (os.length = 0 ∨ Bs ^ (os.length - 1) ≤ n.toNat)) (_) (fun a ha => ⟨s3, [], n, ha.sub (Sub.c 0 (look_int (t := 0) rfl (by first | omega | simp)) (.c 3 rfl .nil)), Chg.refl _ _ _, (fs3.mono (by omega) (by omega)), rfl, Lm.nil, by omega, by simp [vl], by simp, .inl rfl⟩) ?_
 rintro mm aa wl5 ⟨s, os, m, hAwl5, cwl5, hs_s, hm, hlm, hb, hv, hln, hl⟩
 refine (show cw Try.prog 15 _ _ _ wl5 from ?_) aa hAwl5
 clear hAwl5
 have zwl5 := cwl5.size
 refine sx_seq fun K6 k6 => ?_
 refine sx_seq fun K7 k7 => sx_region ?_
 refine mv rfl rfl (sp rfl (px_gt rfl rfl) ?_)
 refine wl_nil (q_n (k7 _ _ ?_))
 refine sx_condP rfl (fun h34 => ?_) (fun h34 => ?_)
 ·
  refine sx_skip ?_
  refine q_n (k6 _ _ ?_)
  refine sx_block ?_
  refine sx_seq fun K8 k8 => sx_region ?_
  refine mv rfl rfl (mv rfl rfl (sp rfl (px_rem rfl rfl (by omega) (by omega)) ?_))
  refine sx_lit1 rfl xelt23 rfl rfl (fun s9 ws9 ss9 fs9 cs9 => ?_)
  have ns9 := Own.norm (f := (Value.int .i64)) (zs := [m % 1000000000]) fs9
  have zws9 := cs9.size
  have f11 := hs_s.ext cs9
  refine sx_append rfl xelt23 rfl rfl f11 ns9.sv one_int (by omega) (by simp only [List.length_cons, List.length_nil]; omega) (by unfold maxLen; simp only [List.length_cons, List.length_nil]; omega) (fun a10 w10 fw10 cw10 => ?_)
  have nw10 := Own.app (f := (Value.int .i64)) (a := os) (b := [m % 1000000000]) fw10
  have zw10 := cw10.size
  refine av rfl rfl (wl_nil (q_n (k8 _ _ ?_)))
  refine sx_region ?_
  refine mv rfl rfl (sp rfl (px_quo rfl rfl (by omega) (by omega) (by omega)) ?_)
  refine av rfl rfl (wl_nil ?_)
  have q12 := Chg.step (l := w.heap.size) (h := ws3.heap.size) cwl5 cs9 (by omega)
  have q13 := Chg.step (l := w.heap.size) (h := ws3.heap.size) q12 cw10 (by omega)
  have hmd := mod_bd (s := m) (by omega)
  have hm0 : m / 1000000000 < m := by omega
  exact q_bn (fun a ha => ⟨_, by omega, a10, (os ++ ([m % 1000000000])), (m / 1000000000), ha.sub (Sub.c 0 (look_int (t := 0) rfl (by first | omega | simp)) (.c 3 rfl .nil)), q13, (nw10.mono (by omega) (by omega)), rfl, hlm.append (Lm.single hmd.1 hmd.2), by omega, of_stepI (by omega) hv, by have h9 := of_ln (m := m) (by omega); simp only [List.length_append, List.length_singleton]; omega, .inr (of_len (by omega) hv)⟩)
 refine sx_exit ?_
 refine q_e (q_e (q_bx (q_n (k4 _ _ ?_))))
 refine sx_seq fun K14 k14 => sx_region ?_
 refine mv rfl rfl (av rfl rfl (wl_nil (q_n (k14 _ _ ?_))))
 refine sx_retc ?_
 refine sx_ret1 Try.results56 rfl ?_
 have hm0 : m = 0 := by omega
 subst hm0
 have hd : os = dg n.toNat := dg_of hlm (by simpa using hv) hl
 subst hd
 have q15 := Chg.step (l := 0) (h := 0) (Chg.zero (l := 0) (h := 0) cs3) cwl5 (by omega)
 exact ⟨_, rfl, (Own.mono hs_s (by omega) (by omega)), q15⟩

theorem c_l02Cmp {w : World} {va : Value} {lva uva : Nat} {zs : List Int} {vb : Value} {lvb uvb : Nat} {ys : List Int} (hva : Sl w lva uva va (zs)) (hvb : Sl w lvb uvb vb (ys)) (h63 : zs.length ≤ 4611686018427387904 ∧ ys.length ≤ 4611686018427387904) :
  Ret Try.prog 80 [va, vb] w fun v w' => v = .int .i64 (cmpL zs ys) ∧ Chg 0 0 w w' := by
 have hva0 := hva.fit
 have hvb0 := hvb.fit
 have zs0 : zs.drop zs.length = [] := by simp
 have ys0 : ys.drop ys.length = [] := by simp
 refine sx_enter Try.func80 rfl Try.ntmps80 (nbl rfl) ?_
 refine sx_seq fun K1 k1 => sx_region ?_
 refine av rfl rfl (wl_nil (q_n (k1 _ _ ?_)))
 refine sx_seq fun K2 k2 => ?_
 refine sx_seq fun K3 k3 => sx_region ?_
 refine mv rfl rfl (sp rfl (px_len rfl Try.underlying23 hva0) ?_)
 refine mv rfl rfl (sp rfl (px_len rfl Try.underlying23 hvb0) ?_)
 refine sp rfl (px_ne rfl rfl) ?_
 refine wl_nil (q_n (k3 _ _ ?_))
 refine sx_condP rfl (fun h54 => ?_) (fun h54 => ?_)
 ·
  refine sx_seq fun K4 k4 => ?_
  refine sx_seq fun K5 k5 => sx_region ?_
  refine mv rfl rfl (sp rfl (px_len rfl Try.underlying23 hva0) ?_)
  refine mv rfl rfl (sp rfl (px_len rfl Try.underlying23 hvb0) ?_)
  refine sp rfl (px_lt rfl rfl) ?_
  refine wl_nil (q_n (k5 _ _ ?_))
  refine sx_condP rfl (fun h55 => ?_) (fun h55 => ?_)
  ·
   refine sx_seq fun K6 k6 => sx_region ?_
   refine av rfl rfl (wl_nil (q_n (k6 _ _ ?_)))
   refine sx_retc ?_
   refine q_r (q_r (sx_ret1 Try.results80 rfl ?_))
   exact ⟨iEq (cmpL_short (by omega)).symm, (Chg.refl 0 0 _)⟩
  refine sx_skip ?_
  refine q_n (k4 _ _ ?_)
  refine sx_seq fun K7 k7 => sx_region ?_
  refine av rfl rfl (wl_nil (q_n (k7 _ _ ?_)))
  refine sx_retc ?_
  refine q_r (sx_ret1 Try.results80 rfl ?_)
  exact ⟨iEq (cmpL_long (by omega)).symm, (Chg.refl 0 0 _)⟩
 refine sx_skip ?_
 refine q_n (k2 _ _ ?_)
 refine sx_seq fun K8 k8 => ?_
 refine sx_seq fun K9 k9 => sx_region ?_
 refine mv rfl rfl (sp rfl (px_len rfl Try.underlying23 hva0) ?_)
 refine sp rfl (px_sub rfl rfl (by omega)) ?_
 refine av rfl rfl (wl_nil (q_n (k9 _ _ ?_)))
 refine sx_block ?_
 have e00 : zs.length = ys.length := by omega
 have he0 : zs.drop zs.length = ys.drop zs.length := by rw [zs0, e00, ys0]
 refine sx_loop (fun mm aa w' => ∃ (k : Nat), Agr 41 [(0, va), (1, vb), (5, .int .i64 (↑k - 1))] aa ∧ Chg 0 0 w w' ∧ (mm = k) ∧ (k ≤ zs.length) ∧ (zs.drop k = ys.drop k)) (_) (fun a ha => ⟨zs.length, ha.sub (Sub.c 0 rfl (.c 1 rfl (.c 5 (look_int (t := 5) rfl (by first | omega | simp)) .nil))), Chg.refl _ _ _, rfl, by omega, he0⟩) ?_
 rintro mm aa wl10 ⟨k, hAwl10, cwl10, hm, hk, he⟩
 refine (show cw Try.prog 41 _ _ _ wl10 from ?_) aa hAwl10
 clear hAwl10
 have zwl10 := cwl10.size
 have hl : zs.length = ys.length := by omega
 refine sx_seq fun K11 k11 => ?_
 refine sx_seq fun K12 k12 => sx_region ?_
 refine mv rfl rfl (sp rfl (px_ge rfl rfl) ?_)
 refine wl_nil (q_n (k12 _ _ ?_))
 refine sx_condP rfl (fun h60 => ?_) (fun h60 => ?_)
 ·
  refine sx_skip ?_
  refine q_n (k11 _ _ ?_)
  refine sx_seq fun K13 k13 => ?_
  refine sx_block ?_
  refine sx_seq fun K14 k14 => ?_
  refine sx_seq fun K15 k15 => ?_
  have f16 := hva0.ext cwl10
  have f17 := hvb0.ext cwl10
  refine dx_region (fun w' => Chg 0 0 wl10 w') (by kernel_rfl) (Chg.zero (Chg.drew _)) ?_
  have d18 := Chg.drew wl10
  have s18 : Chg 0 0 wl10 (World.drew wl10) := Chg.zero (Chg.drew _)
  have y18 : (World.drew wl10).heap.size = wl10.heap.size := rfl
  generalize World.drew wl10 = w18 at *
  have zw18 := d18.size
  refine dt 0 rfl rfl rfl rfl s18 (fun _ hS => px_move rfl) ?_
  refine dt 1 rfl rfl rfl rfl s18 (fun _ hS => px_move rfl) ?_
  refine dt 2 rfl rfl rfl rfl s18 (fun _ hS => px_index1 (j := (k - 1)) rfl rfl (by omega) Try.underlying23 Try.sizeOf3 ((f16).chg hS (by omega)) (by omega)) ?_
  refine dt 3 rfl rfl rfl rfl s18 (fun _ hS => px_load rfl (((f16).chg hS (by omega)).load1 (at_int (by omega)) Try.isAgg3)) ?_
  refine dt 4 rfl rfl rfl rfl s18 (fun _ hS => px_move rfl) ?_
  refine dt 5 rfl rfl rfl rfl s18 (fun _ hS => px_move rfl) ?_
  refine dt 6 rfl rfl rfl rfl s18 (fun _ hS => px_index1 (j := (k - 1)) rfl rfl (by omega) Try.underlying23 Try.sizeOf3 ((f17).chg hS (by omega)) (by omega)) ?_
  refine dt 7 rfl rfl rfl rfl s18 (fun _ hS => px_load rfl (((f17).chg hS (by omega)).load1 (at_int (by omega)) Try.isAgg3)) ?_
  refine dt 8 rfl rfl rfl rfl s18 (fun _ hS => px_lt rfl rfl) ?_
  refine dx_done (by kernel_rfl) ?_
  refine q_n (k15 _ _ ?_)
  refine sx_condP rfl (fun h61 => ?_) (fun h61 => ?_)
  ·
   refine sx_seq fun K19 k19 => sx_region ?_
   refine av rfl rfl (wl_nil (q_n (k19 _ _ ?_)))
   refine sx_sub (Sub.c 0 rfl (.c 1 rfl (.c 4 rfl (.c 5 rfl .nil)))) ?_
   refine sx_retc ?_
   refine q_r (q_br (q_r (q_r (q_br (q_r (sx_ret1 Try.results80 rfl ?_))))))
   have hlt := cmpL_lt hl (k := k - 1) (by omega) (by rw [Nat.sub_add_cancel (by omega)]; exact he) (h61)
   exact ⟨iEq hlt.symm, (cwl10.t d18)⟩
  refine sx_skip ?_
  refine q_n (k14 _ _ ?_)
  refine sx_seq fun K20 k20 => ?_
  have f21 := f16.ext d18
  have f22 := f17.ext d18
  refine dx_region (fun w' => Chg 0 0 w18 w') (by kernel_rfl) (Chg.zero (Chg.drew _)) ?_
  have d23 := Chg.drew w18
  have s23 : Chg 0 0 w18 (World.drew w18) := Chg.zero (Chg.drew _)
  have y23 : (World.drew w18).heap.size = w18.heap.size := rfl
  generalize World.drew w18 = w23 at *
  have zw23 := d23.size
  refine dt 0 rfl rfl rfl rfl s23 (fun _ hS => px_move rfl) ?_
  refine dt 1 rfl rfl rfl rfl s23 (fun _ hS => px_move rfl) ?_
  refine dt 2 rfl rfl rfl rfl s23 (fun _ hS => px_index1 (j := (k - 1)) rfl rfl (by omega) Try.underlying23 Try.sizeOf3 ((f21).chg hS (by omega)) (by omega)) ?_
  refine dt 3 rfl rfl rfl rfl s23 (fun _ hS => px_load rfl (((f21).chg hS (by omega)).load1 (at_int (by omega)) Try.isAgg3)) ?_
  refine dt 4 rfl rfl rfl rfl s23 (fun _ hS => px_move rfl) ?_
  refine dt 5 rfl rfl rfl rfl s23 (fun _ hS => px_move rfl) ?_
  refine dt 6 rfl rfl rfl rfl s23 (fun _ hS => px_index1 (j := (k - 1)) rfl rfl (by omega) Try.underlying23 Try.sizeOf3 ((f22).chg hS (by omega)) (by omega)) ?_
  refine dt 7 rfl rfl rfl rfl s23 (fun _ hS => px_load rfl (((f22).chg hS (by omega)).load1 (at_int (by omega)) Try.isAgg3)) ?_
  refine dt 8 rfl rfl rfl rfl s23 (fun _ hS => px_gt rfl rfl) ?_
  refine dx_done (by kernel_rfl) ?_
  refine q_n (k20 _ _ ?_)
  refine sx_sub (Sub.c 0 rfl (.c 1 rfl (.c 5 rfl (.c 40 rfl .nil)))) ?_
  refine sx_condP rfl (fun h64 => ?_) (fun h64 => ?_)
  ·
   refine sx_seq fun K24 k24 => sx_region ?_
   refine av rfl rfl (wl_nil (q_n (k24 _ _ ?_)))
   refine sx_retc ?_
   refine q_br (q_r (q_r (q_br (q_r (sx_ret1 Try.results80 rfl ?_)))))
   have hlt := cmpL_gt hl (k := k - 1) (by omega) (by rw [Nat.sub_add_cancel (by omega)]; exact he) (h64)
   exact ⟨iEq hlt.symm, ((cwl10.t d18).t d23)⟩
  refine sx_skip ?_
  refine q_bn (q_n (k13 _ _ ?_))
  refine sx_region ?_
  refine mv rfl rfl (sp rfl (px_sub rfl rfl (by omega)) ?_)
  refine av rfl rfl (wl_nil ?_)
  exact fun a ha => ⟨_, by omega, (k - 1), ha.sub (Sub.c 0 rfl (.c 1 rfl (.c 5 (look_int (t := 5) rfl (by first | omega | simp)) .nil))), ((cwl10.t d18).t d23), rfl, by omega, drop_succ_eq (by omega) (by omega) (by rw [Nat.sub_add_cancel (by omega)]; exact he) (by omega)⟩
 refine sx_exit ?_
 refine q_e (q_e (q_bx (q_n (k8 _ _ ?_))))
 refine sx_seq fun K25 k25 => sx_region ?_
 refine av rfl rfl (wl_nil (q_n (k25 _ _ ?_)))
 refine sx_retc ?_
 refine sx_ret1 Try.results80 rfl ?_
 have e1 : k = 0 := by omega
 subst e1
 have e2 : zs = ys := by simpa using he
 subst e2
 exact ⟨iEq (cmpL_self zs).symm, cwl10⟩

theorem c_l02Mul {w : World} {va : Value} {lva uva : Nat} {m : Nat} {vb : Value} {lvb uvb : Nat} {n : Nat} (hva : Sl w lva uva va (dg m)) (hvb : Sl w lvb uvb vb (dg n)) (hbm : (dg m).length ≤ 1000) (hbn : (dg n).length ≤ 1000) :
  Ret Try.prog 92 [va, vb] w fun v w' => ∃ s, v = s ∧ Sl w' (w.heap.size) (w'.heap.size) s (dg (m * n)) ∧ Chg 0 0 w w' := by
 have hva0 := hva.fit
 have hvb0 := hvb.fit
 refine sx_enter Try.func92 rfl Try.ntmps92 (nbl rfl) ?_
 refine sx_seq fun K1 k1 => sx_region ?_
 refine av rfl rfl (wl_nil (q_n (k1 _ _ ?_)))
 refine sx_seq fun K2 k2 => ?_
 refine sx_seq fun K3 k3 => sx_region ?_
 refine mv rfl rfl (sp rfl (px_len rfl Try.underlying23 hva0) ?_)
 refine sp rfl (px_eq rfl rfl) ?_
 refine mv rfl rfl ?_
 refine sx_tmpP (t := 15) rfl (fun h131 => ?_) (fun h131 => ?_)
 ·
  refine sx_guardF rfl rfl rfl rfl rfl rfl ?_
  refine sx_guardF rfl rfl rfl rfl rfl rfl ?_
  refine sx_guardF rfl rfl rfl rfl rfl rfl ?_
  refine sp rfl (px_pick rfl rfl) ?_
  refine wl_nil (q_n (k3 _ _ ?_))
  refine sx_condT rfl ?_
  refine sx_seq fun K4 k4 => sx_region ?_
  refine av rfl rfl (wl_nil (q_n (k4 _ _ ?_)))
  refine sx_retc ?_
  refine q_r (sx_ret1 Try.results92 rfl ?_)
  have e0 : m * n = 0 := by first | (rw [dg_nil.1 (List.length_eq_zero_iff.1 (show (dg m).length = 0 by omega)), Nat.zero_mul]) | (rw [dg_nil.1 (List.length_eq_zero_iff.1 (show (dg n).length = 0 by omega)), Nat.mul_zero])
  rw [e0, dg_zero]
  exact ⟨_, rfl, Sv.nil _ _ _ _, (Chg.refl 0 0 _)⟩
 refine sx_guardT rfl rfl rfl ?_
 refine mv rfl rfl ?_
 refine sx_guardT rfl rfl rfl ?_
 refine sp rfl (px_len rfl Try.underlying23 hvb0) ?_
 refine sx_guardT rfl rfl rfl ?_
 refine sp rfl (px_eq rfl rfl) ?_
 refine sp rfl (px_pick rfl rfl) ?_
 refine wl_nil (q_n (k3 _ _ ?_))
 refine sx_condP rfl (fun h131x1 => ?_) (fun h131x1 => ?_)
 ·
  refine sx_seq fun K5 k5 => sx_region ?_
  refine av rfl rfl (wl_nil (q_n (k5 _ _ ?_)))
  refine sx_retc ?_
  refine q_r (sx_ret1 Try.results92 rfl ?_)
  have e0 : m * n = 0 := by first | (rw [dg_nil.1 (List.length_eq_zero_iff.1 (show (dg m).length = 0 by omega)), Nat.zero_mul]) | (rw [dg_nil.1 (List.length_eq_zero_iff.1 (show (dg n).length = 0 by omega)), Nat.mul_zero])
  rw [e0, dg_zero]
  exact ⟨_, rfl, Sv.nil _ _ _ _, (Chg.refl 0 0 _)⟩
 refine sx_skip ?_
 refine q_n (k2 _ _ ?_)
 refine sx_seq fun K6 k6 => sx_region ?_
 refine mv rfl rfl (sp rfl (px_len rfl Try.underlying23 hva0) ?_)
 refine mv rfl rfl (sp rfl (px_len rfl Try.underlying23 hvb0) ?_)
 refine sp rfl (px_add rfl rfl (by omega)) ?_
 refine sx_make (c := (dg m).length + (dg n).length) rfl xelt23 (look_int rfl (by omega)) (look_int rfl (by omega)) (by omega) (by unfold maxLen; omega) (fun s7 ws7 fs7 cs7 ls7 => ?_)
 have ns7 := fs7.made
 have zws7 := cs7.size
 refine av rfl rfl (wl_nil (q_n (k6 _ _ ?_)))
 refine sx_sub (Sub.c 0 rfl (.c 1 rfl (.c 4 rfl (.c 5 rfl .nil)))) ?_
 refine sx_seq fun K8 k8 => ?_
 refine sx_seq fun K9 k9 => sx_region ?_
 refine mv rfl rfl ?_
 have f10 := hva0.ext cs7
 refine sp rfl (px_len rfl Try.underlying23 f10) ?_
 refine mv rfl rfl (wl_nil (q_n (k9 _ _ ?_)))
 refine sx_block ?_
 refine sx_loop (fun mm aa w' => ∃ (k : Nat) (os : List Int), Agr 72 [(1, vb), (5, s7), (26, va), (27, .int .i64 (↑(dg m).length)), (28, .int .i64 ↑k)] aa ∧ Chg w.heap.size ws7.heap.size ws7 w' ∧ Own w' w.heap.size ws7.heap.size s7 intT os.length 1 (os.map (Value.int .i64)) ∧ (mm = (dg m).length - k) ∧ (k ≤ (dg m).length) ∧ (os.length = (dg m).length + (dg n).length) ∧ (Lm os) ∧ (∀ i, k + (dg n).length ≤ i → os.getD i 0 = 0) ∧ (vl os = vl ((dg m).take k) * n)) (_) (fun a ha => ⟨0, List.replicate ((dg m).length + (dg n).length) 0, ha.sub (Sub.c 1 rfl (.c 5 rfl (.c 26 rfl (.c 27 (look_int (t := 27) rfl (by first | omega | simp)) (.c 28 (look_int (t := 28) rfl (by first | omega | simp)) .nil))))), Chg.refl _ _ _, (ns7.mono (by omega) (by omega)), rfl, by omega, by simp, Lm.replicate _, fun i _ => zero_rep _ i (Nat.zero_le _), by rw [vl_replicate, List.take_zero]; simp [vl]⟩) ?_
 rintro mm aa wl11 ⟨k, os, hAwl11, cwl11, hs_s7, hm, hk, hos, hlm, hz, hv⟩
 refine (show cw Try.prog 72 _ _ _ wl11 from ?_) aa hAwl11
 clear hAwl11
 have zwl11 := cwl11.size
 have am := (Lm_dg m).getD k
 refine sx_seq fun K12 k12 => sx_region ?_
 refine sp rfl (px_lt rfl rfl) ?_
 refine wl_nil (q_n (k12 _ _ ?_))
 refine sx_seq fun K13 k13 => ?_
 refine sx_condP rfl (fun h135 => ?_) (fun h135 => ?_)
 ·
  refine sx_skip ?_
  refine q_n (k13 _ _ ?_)
  refine sx_seq fun K14 k14 => ?_
  refine sx_block ?_
  refine sx_seq fun K15 k15 => sx_region ?_
  refine mv rfl rfl ?_
  have f16 := f10.chg cwl11 (by omega)
  refine sp rfl (px_index1 (j := k) rfl rfl (by omega) Try.underlying23 Try.sizeOf3 f16 (by first | omega | (simp only [List.length_set]; omega))) ?_
  refine sp rfl (px_load rfl (f16.load1 (at_int (by omega)) Try.isAgg3)) ?_
  refine av rfl rfl (av rfl rfl (wl_nil (q_n (k15 _ _ ?_))))
  refine sx_seq fun K17 k17 => sx_region ?_
  refine av rfl rfl (wl_nil (q_n (k17 _ _ ?_)))
  refine sx_seq fun K18 k18 => ?_
  refine sx_seq fun K19 k19 => sx_region ?_
  refine mv rfl rfl ?_
  have f20 := hvb0.ext cs7
  have f21 := f20.chg cwl11 (by omega)
  refine sp rfl (px_len rfl Try.underlying23 f21) ?_
  refine mv rfl rfl (wl_nil (q_n (k19 _ _ ?_)))
  refine sx_sub (Sub.c 1 rfl (.c 5 rfl (.c 6 rfl (.c 7 rfl (.c 8 rfl (.c 26 rfl (.c 27 rfl (.c 28 rfl (.c 33 rfl (.c 34 rfl (.c 35 rfl .nil))))))))))) ?_
  refine sx_block ?_
  refine sx_loop (fun mm aa w' => ∃ (j : Nat) (o2 : List Int) (c : Int), Agr 72 [(1, vb), (5, s7), (6, .int .i64 ↑k), (7, .int .i64 ((dg m).getD k 0)), (8, .int .i64 c), (26, va), (27, .int .i64 (↑(dg m).length)), (28, .int .i64 ↑k), (33, vb), (34, .int .i64 (↑(dg n).length)), (35, .int .i64 ↑j)] aa ∧ Chg w.heap.size ws7.heap.size wl11 w' ∧ Own w' w.heap.size ws7.heap.size s7 intT o2.length 1 (o2.map (Value.int .i64)) ∧ (mm = (dg n).length - j) ∧ (j ≤ (dg n).length) ∧ (o2.length = (dg m).length + (dg n).length) ∧ (Lm o2) ∧ (∀ i, k + (dg n).length ≤ i → o2.getD i 0 = 0) ∧ (0 ≤ c ∧ c < 1000000000) ∧ (vl o2 + Bs ^ (k + j) * c.toNat = vl os + Bs ^ k * (((dg m).getD k 0).toNat * vl ((dg n).take j)))) (_) (fun a ha => ⟨0, os, 0, ha.sub (Sub.c 1 rfl (.c 5 rfl (.c 6 rfl (.c 7 rfl (.c 8 (look_int (t := 8) rfl (by first | omega | simp)) (.c 26 rfl (.c 27 rfl (.c 28 rfl (.c 33 rfl (.c 34 (look_int (t := 34) rfl (by first | omega | simp)) (.c 35 (look_int (t := 35) rfl (by first | omega | simp)) .nil))))))))))), Chg.refl _ _ _, hs_s7, rfl, by omega, hos, hlm, hz, by omega, by simp [vl]⟩) ?_
  rintro mm aa wl22 ⟨j, o2, c, hAwl22, cwl22, hs_s7, hm, hj, hos2, hlm2, hz2, hc, hv2⟩
  refine (show cw Try.prog 72 _ _ _ wl22 from ?_) aa hAwl22
  clear hAwl22
  have zwl22 := cwl22.size
  have bn := (Lm_dg n).getD j
  have on := hlm2.getD (k + j)
  have hxy := mul_limb am.1 am.2 bn.1 bn.2
  refine sx_seq fun K23 k23 => sx_region ?_
  refine sp rfl (px_lt rfl rfl) ?_
  refine wl_nil (q_n (k23 _ _ ?_))
  refine sx_seq fun K24 k24 => ?_
  refine sx_condP rfl (fun h137 => ?_) (fun h137 => ?_)
  ·
   refine sx_skip ?_
   refine q_n (k24 _ _ ?_)
   refine sx_seq fun K25 k25 => ?_
   refine sx_block ?_
   refine sx_seq fun K26 k26 => sx_region ?_
   refine mv rfl rfl ?_
   have f27 := f21.chg cwl22 (by omega)
   refine sp rfl (px_index1 (j := j) rfl rfl (by omega) Try.underlying23 Try.sizeOf3 f27 (by first | omega | (simp only [List.length_set]; omega))) ?_
   refine sp rfl (px_load rfl (f27.load1 (at_int (by omega)) Try.isAgg3)) ?_
   refine av rfl rfl (av rfl rfl (wl_nil (q_n (k26 _ _ ?_))))
   refine sx_sub (Sub.c 1 rfl (.c 5 rfl (.c 6 rfl (.c 7 rfl (.c 8 rfl (.c 9 rfl (.c 10 rfl (.c 26 rfl (.c 27 rfl (.c 28 rfl (.c 33 rfl (.c 34 rfl (.c 35 rfl .nil))))))))))))) ?_
   refine sx_seq fun K28 k28 => sx_region ?_
   refine mv rfl rfl (mv rfl rfl (mv rfl rfl (sp rfl (px_add rfl rfl (by omega)) ?_)))
   refine sp rfl (px_index1 (j := (k + j)) rfl rfl (by omega) Try.underlying23 Try.sizeOf3 hs_s7.sv (by first | omega | (simp only [List.length_set]; omega))) ?_
   refine sp rfl (px_load rfl (hs_s7.sv.load1 (at_int (by omega)) Try.isAgg3)) ?_
   refine mv rfl rfl (mv rfl rfl (sp rfl (px_mul rfl rfl (by omega)) ?_))
   refine sp rfl (px_add rfl rfl (by omega)) ?_
   refine mv rfl rfl (sp rfl (px_add rfl rfl (by omega)) ?_)
   refine av rfl rfl (wl_nil (q_n (k28 _ _ ?_)))
   refine sx_sub (Sub.c 1 rfl (.c 5 rfl (.c 6 rfl (.c 7 rfl (.c 8 rfl (.c 9 rfl (.c 11 rfl (.c 26 rfl (.c 27 rfl (.c 28 rfl (.c 33 rfl (.c 34 rfl (.c 35 rfl .nil))))))))))))) ?_
   refine sx_seq fun K29 k29 => sx_region ?_
   refine mv rfl rfl (mv rfl rfl (mv rfl rfl (sp rfl (px_add rfl rfl (by omega)) ?_)))
   refine mv rfl rfl (sp rfl (px_rem rfl rfl (by omega) (by omega)) ?_)
   refine sp rfl (px_index1 (j := (k + j)) rfl rfl (by omega) Try.underlying23 Try.sizeOf3 hs_s7.sv (by first | omega | (simp only [List.length_set]; omega))) ?_
   refine sx_storeO rfl rfl hs_s7 (by first | omega | (simp only [List.length_map]; omega)) Try.sizeOf3 rfl (fun w30 sw30 fw30 cw30 => ?_)
   have zw30 := cw30.size
   have nw30 := fw30.set
   refine wl_nil (q_n (k29 _ _ ?_))
   refine sx_sub (Sub.c 1 rfl (.c 5 rfl (.c 6 rfl (.c 7 rfl (.c 8 rfl (.c 11 rfl (.c 26 rfl (.c 27 rfl (.c 28 rfl (.c 33 rfl (.c 34 rfl (.c 35 rfl .nil)))))))))))) ?_
   refine sx_region ?_
   refine mv rfl rfl (sp rfl (px_quo rfl rfl (by omega) (by omega) (by omega)) ?_)
   refine av rfl rfl (wl_nil ?_)
   refine q_bn (q_n (k25 _ _ ?_))
   refine sx_region ?_
   refine sp rfl (px_add rfl rfl (by omega)) ?_
   refine mv rfl rfl (wl_nil ?_)
   have q31 := Chg.step (l := w.heap.size) (h := ws7.heap.size) cwl22 cw30 (by omega)
   have hs : ((((o2).getD (k + j) 0) + (((dg m).getD k 0) * ((dg n).getD j 0))) + c) = c + (o2.getD (k + j) 0 + (dg m).getD k 0 * (dg n).getD j 0) := by omega
   have hm2 := mul_step (V := vl os) hc.1 am.1 on.1 bn.1 (by omega) (by omega) hs hv2
   exact fun a ha => ⟨_, by omega, (j + 1), ((o2).set (k + j) (((((o2).getD (k + j) 0) + (((dg m).getD k 0) * ((dg n).getD j 0))) + c) % 1000000000)), (((((o2).getD (k + j) 0) + (((dg m).getD k 0) * ((dg n).getD j 0))) + c) / 1000000000), ha.sub (Sub.c 1 rfl (.c 5 rfl (.c 6 rfl (.c 7 rfl (.c 8 (look_int (t := 8) rfl (by first | omega | simp)) (.c 26 rfl (.c 27 rfl (.c 28 rfl (.c 33 rfl (.c 34 rfl (.c 35 (look_int (t := 35) rfl (by first | omega | simp)) .nil))))))))))), q31, (nw30.mono (by omega) (by omega)), rfl, by omega, by simpa using hos2, hlm2.set _ (by omega) (by omega), zero_set' hz2 (by omega), by omega, hm2⟩
  refine sx_exit ?_
  refine q_e (q_e (q_bx (q_n (k18 _ _ ?_))))
  have ej : j = (dg n).length := by omega
  rw [ej, List.take_length, vl_dg] at hv2
  refine sx_region ?_
  refine mv rfl rfl (mv rfl rfl (mv rfl rfl ?_))
  have f32 := f21.chg cwl22 (by omega)
  refine sp rfl (px_len rfl Try.underlying23 f32) ?_
  refine sp rfl (px_add rfl rfl (by omega)) ?_
  refine mv rfl rfl (sp rfl (px_index1 (j := (k + (dg n).length)) rfl rfl (by omega) Try.underlying23 Try.sizeOf3 hs_s7.sv (by first | omega | (simp only [List.length_set]; omega))) ?_)
  refine sx_storeO rfl rfl hs_s7 (by first | omega | (simp only [List.length_map]; omega)) Try.sizeOf3 rfl (fun w33 sw33 fw33 cw33 => ?_)
  have zw33 := cw33.size
  have nw33 := fw33.set
  refine wl_nil ?_
  refine q_bn (q_n (k14 _ _ ?_))
  refine sx_sub (Sub.c 1 rfl (.c 5 rfl (.c 26 rfl (.c 27 rfl (.c 28 rfl .nil))))) ?_
  have oz := hz2 (k + (dg n).length) (Nat.le_refl _)
  have hosR : (o2.set (k + (dg n).length) c).length = (dg m).length + (dg n).length := by simpa using hos2
  have hlmR := hlm2.set (k + (dg n).length) hc.1 hc.2
  have hzR : ∀ i, k + (dg n).length + 1 ≤ i → (o2.set (k + (dg n).length) c).getD i 0 = 0 := zero_set hz2 (by omega)
  have hvR : vl (o2.set (k + (dg n).length) c) = vl os + Bs ^ k * (((dg m).getD k 0).toNat * n) := (carry_step (by omega) oz).trans hv2
  refine sx_region ?_
  refine sp rfl (px_add rfl rfl (by omega)) ?_
  refine mv rfl rfl (wl_nil ?_)
  have q34 := Chg.step (l := w.heap.size) (h := ws7.heap.size) cwl11 cwl22 (by omega)
  have q35 := Chg.step (l := w.heap.size) (h := ws7.heap.size) q34 cw33 (by omega)
  have hrow := mul_row (P := Bs ^ k) (a := ((dg m).getD k 0).toNat) hv
  rw [← vl_take_succ'] at hrow
  exact fun a ha => ⟨_, by omega, (k + 1), ((o2).set (k + (dg n).length) c), ha.sub (Sub.c 1 rfl (.c 5 rfl (.c 26 rfl (.c 27 rfl (.c 28 (look_int (t := 28) rfl (by first | omega | simp)) .nil))))), q35, (nw33.mono (by omega) (by omega)), rfl, by omega, by simpa using hosR, hlmR, fun i hi => hzR i (by omega), hvR.trans hrow⟩
 refine sx_exit ?_
 refine q_e (q_e (q_bx (q_n (k8 _ _ ?_))))
 refine sx_seq fun K36 k36 => ?_
 have ek : k = (dg m).length := by omega
 rw [ek, List.take_length, vl_dg] at hv
 have hzz := hlm
 refine sx_region ?_
 refine mv rfl rfl (sx_call rfl rfl Try.call82 (c_l02Trim hs_s7 (by assumption) (by first | omega | (simp only [List.length_append, List.length_set, List.length_replicate, List.length_cons, List.length_nil] at *; omega))) (fun v37 w37 p37 => ?_))
 obtain ⟨s37, rfl, os_37, c37⟩ := p37
 have zw37 := c37.size
 refine av rfl rfl (wl_nil (q_n (k36 _ _ ?_)))
 refine sx_retc ?_
 refine sx_ret1 Try.results92 rfl ?_
 have hr := Own.sv os_37
 rw [hv] at hr
 have q38 := Chg.step (l := 0) (h := 0) (Chg.zero (l := 0) (h := 0) cs7) cwl11 (by omega)
 have q39 := Chg.step (l := 0) (h := 0) q38 c37 (by omega)
 exact ⟨_, rfl, hr.mono (by omega) (by omega), q39⟩

theorem c_l03Digit {w : World} {va : Value} {lva uva : Nat} {m : Nat} {vb : Value} {lvb uvb : Nat} {n : Nat} (hva : Sl w lva uva va (dg m)) (hvb : Sl w lvb uvb vb (dg n)) (hbm : (dg m).length ≤ 1000) (hbn : (dg n).length ≤ 990) (hq : m < (999999999 + 1) * n) :
  Ret Try.prog 90 [va, vb] w fun v w' => v = .int .i64 (((m / n : Nat) : Int)) ∧ Chg 0 0 w w' := by
 have hva0 := hva.fit
 have hvb0 := hvb.fit
 refine sx_enter Try.func90 rfl Try.ntmps90 (nbl rfl) ?_
 refine sx_seq fun K1 k1 => sx_region ?_
 refine av rfl rfl (wl_nil (q_n (k1 _ _ ?_)))
 refine sx_seq fun K2 k2 => sx_region ?_
 refine av rfl rfl (wl_nil (q_n (k2 _ _ ?_)))
 refine sx_seq fun K3 k3 => sx_region ?_
 refine av rfl rfl (wl_nil (q_n (k3 _ _ ?_)))
 refine sx_seq fun K4 k4 => ?_
 refine sx_block ?_
 refine sx_loop (fun mm aa w' => ∃ (lo : Int) (hi : Int), Agr 27 [(0, va), (1, vb), (5, .int .i64 lo), (6, .int .i64 hi)] aa ∧ Chg 0 0 w w' ∧ (mm = (hi - lo).toNat) ∧ (0 ≤ lo ∧ lo ≤ hi ∧ hi ≤ 999999999) ∧ (lo.toNat * n ≤ m) ∧ (m < (hi.toNat + 1) * n)) (_) (fun a ha => ⟨0, 999999999, ha.sub (Sub.c 0 rfl (.c 1 rfl (.c 5 (look_int (t := 5) rfl (by first | omega | simp)) (.c 6 (look_int (t := 6) rfl (by first | omega | simp)) .nil)))), Chg.refl _ _ _, rfl, by omega, by simp, hq⟩) ?_
 rintro mm aa wl5 ⟨lo, hi, hAwl5, cwl5, hm, hb, hl, hh⟩
 refine (show cw Try.prog 27 _ _ _ wl5 from ?_) aa hAwl5
 clear hAwl5
 have zwl5 := cwl5.size
 have lq := len_u64 (n := ((lo + hi + 1) / 2)) (by omega)
 have lm := len_mul n ((lo + hi + 1) / 2).toNat
 refine sx_seq fun K6 k6 => ?_
 refine sx_seq fun K7 k7 => sx_region ?_
 refine mv rfl rfl (mv rfl rfl (sp rfl (px_lt rfl rfl) ?_))
 refine wl_nil (q_n (k7 _ _ ?_))
 refine sx_condP rfl (fun h20 => ?_) (fun h20 => ?_)
 ·
  refine sx_skip ?_
  refine q_n (k6 _ _ ?_)
  refine sx_block ?_
  refine sx_seq fun K8 k8 => sx_region ?_
  refine mv rfl rfl (mv rfl rfl (sp rfl (px_add rfl rfl (by omega)) ?_))
  refine sp rfl (px_add rfl rfl (by omega)) ?_
  refine sp rfl (px_quo rfl rfl (by omega) (by omega) (by omega)) ?_
  refine av rfl rfl (wl_nil (q_n (k8 _ _ ?_)))
  refine sx_seq fun K9 k9 => sx_region ?_
  refine mv rfl rfl (mv rfl rfl (sx_call rfl rfl Try.call56 (c_sNatOf (by omega)) (fun v10 w10 p10 => ?_)))
  obtain ⟨s10, rfl, os_10, c10⟩ := p10
  have zw10 := c10.size
  have f11 := hvb0.ext cwl5
  have f12 := f11.ext c10
  refine sx_call rfl rfl Try.call92 (c_l02Mul f12 os_10.sv (by omega) (by omega)) (fun v13 w13 p13 => ?_)
  obtain ⟨s13, rfl, os_13, c13⟩ := p13
  have zw13 := c13.size
  refine mv rfl rfl ?_
  have f14 := hva0.ext cwl5
  have f16 := (f14.ext c10).ext c13
  refine sx_call rfl rfl Try.call80 (c_l02Cmp os_13 f16 (by omega)) (fun v17 w17 p17 => ?_)
  obtain ⟨rfl, c17⟩ := p17
  have zw17 := c17.size
  refine sp rfl (px_le rfl rfl) ?_
  refine wl_nil (q_n (k9 _ _ ?_))
  refine sx_sub (Sub.c 0 rfl (.c 1 rfl (.c 5 rfl (.c 6 rfl (.c 7 rfl (.c 22 rfl .nil)))))) ?_
  refine sx_condP rfl (fun h22 => ?_) (fun h22 => ?_)
  ·
   rw [cmpL_dg] at h22
   have hle := cmpN_le.1 h22
   refine sx_region ?_
   refine mv rfl rfl (av rfl rfl (wl_nil ?_))
   exact q_bn (fun a ha => ⟨_, by omega, (((lo + hi) + 1) / 2), hi, ha.sub (Sub.c 0 rfl (.c 1 rfl (.c 5 (look_int (t := 5) rfl (by first | omega | simp)) (.c 6 rfl .nil)))), (((cwl5.t c10).t c13).t c17), rfl, by omega, by first | exact hl | (rw [Nat.mul_comm]; exact hle), by first | exact hh | (rw [show (((lo + hi + 1) / 2) - 1).toNat + 1 = ((lo + hi + 1) / 2).toNat by omega, Nat.mul_comm]; exact hgt)⟩)
  rw [cmpL_dg] at h22
  have hgt := Nat.lt_of_not_le (mt cmpN_le.2 h22)
  refine sx_region ?_
  refine mv rfl rfl (sp rfl (px_sub rfl rfl (by omega)) ?_)
  refine av rfl rfl (wl_nil ?_)
  exact q_bn (fun a ha => ⟨_, by omega, lo, ((((lo + hi) + 1) / 2) - 1), ha.sub (Sub.c 0 rfl (.c 1 rfl (.c 5 rfl (.c 6 (look_int (t := 6) rfl (by first | omega | simp)) .nil)))), (((cwl5.t c10).t c13).t c17), rfl, by omega, by first | exact hl | (rw [Nat.mul_comm]; exact hle), by first | exact hh | (rw [show (((lo + hi + 1) / 2) - 1).toNat + 1 = ((lo + hi + 1) / 2).toNat by omega, Nat.mul_comm]; exact hgt)⟩)
 refine sx_exit ?_
 refine q_e (q_e (q_bx (q_n (k4 _ _ ?_))))
 refine sx_seq fun K18 k18 => sx_region ?_
 refine mv rfl rfl (av rfl rfl (wl_nil (q_n (k18 _ _ ?_))))
 refine sx_retc ?_
 refine sx_ret1 Try.results90 rfl ?_
 have he := digit_end hb.1 (by omega) hb.2.1 hl hh
 exact ⟨by rw [he], cwl5⟩

theorem c_l02Sub {w : World} {va : Value} {lva uva : Nat} {m : Nat} {vb : Value} {lvb uvb : Nat} {n : Nat} (hva : Sl w lva uva va (dg m)) (hvb : Sl w lvb uvb vb (dg n)) (hbm : (dg m).length ≤ 1000) (hbn : (dg n).length ≤ 1000) (hle : n ≤ m) :
  Ret Try.prog 91 [va, vb] w fun v w' => ∃ s, v = s ∧ Sl w' (w.heap.size) (w'.heap.size) s (dg (m - n)) ∧ Chg 0 0 w w' := by
 have hva0 := hva.fit
 have hvb0 := hvb.fit
 refine sx_enter Try.func91 rfl Try.ntmps91 (nbl rfl) ?_
 refine sx_seq fun K1 k1 => sx_region ?_
 refine av rfl rfl (wl_nil (q_n (k1 _ _ ?_)))
 refine sx_seq fun K2 k2 => sx_region ?_
 refine sx_lit0 rfl xelt23 (fun s3 ws3 ss3 fs3 cs3 => ?_)
 have zws3 := cs3.size
 refine av rfl rfl (wl_nil (q_n (k2 _ _ ?_)))
 refine sx_seq fun K4 k4 => sx_region ?_
 refine av rfl rfl (wl_nil (q_n (k4 _ _ ?_)))
 refine sx_seq fun K5 k5 => ?_
 refine sx_seq fun K6 k6 => sx_region ?_
 refine mv rfl rfl ?_
 have f7 := hva0.ext cs3
 refine sp rfl (px_len rfl Try.underlying23 f7) ?_
 refine mv rfl rfl (wl_nil (q_n (k6 _ _ ?_)))
 refine sx_block ?_
 refine sx_loop (fun mm aa w' => ∃ (k : Nat) (s : Value) (os : List Int) (c : Nat), Agr 42 [(0, va), (1, vb), (5, s), (6, .int .i64 ((c : Nat) : Int)), (11, .int .i64 (↑(dg m).length)), (12, .int .i64 ↑k)] aa ∧ Chg w.heap.size ws3.heap.size ws3 w' ∧ Own w' w.heap.size w'.heap.size s intT os.length 1 (os.map (Value.int .i64)) ∧ (mm = (dg m).length - k) ∧ (os.length = k) ∧ (Lm os) ∧ (c ≤ 1) ∧ (k ≤ (dg m).length) ∧ (vl ((dg m).take k) + Bs ^ k * c = vl (os) + vl ((dg n).take k))) (_) (fun a ha => ⟨0, s3, [], 0, ha.sub (Sub.c 0 rfl (.c 1 rfl (.c 5 rfl (.c 6 (look_int (t := 6) rfl (by first | omega | simp)) (.c 11 (look_int (t := 11) rfl (by first | omega | simp)) (.c 12 (look_int (t := 12) rfl (by first | omega | simp)) .nil)))))), Chg.refl _ _ _, (fs3.mono (by omega) (by omega)), rfl, by simp, Lm.nil, by omega, by omega, by simp [vl]⟩) ?_
 rintro mm aa wl8 ⟨k, s, os, c, hAwl8, cwl8, hs_s, hm, hos, hlm, hc, hk, hv⟩
 refine (show cw Try.prog 42 _ _ _ wl8 from ?_) aa hAwl8
 clear hAwl8
 have zwl8 := cwl8.size
 have am := (Lm_dg m).getD k
 have bn := (Lm_dg n).getD k
 refine sx_seq fun K9 k9 => sx_region ?_
 refine sp rfl (px_lt rfl rfl) ?_
 refine wl_nil (q_n (k9 _ _ ?_))
 refine sx_seq fun K10 k10 => ?_
 refine sx_condP rfl (fun h107 => ?_) (fun h107 => ?_)
 ·
  refine sx_skip ?_
  refine q_n (k10 _ _ ?_)
  refine sx_seq fun K11 k11 => ?_
  refine sx_block ?_
  refine sx_seq fun K12 k12 => sx_region ?_
  refine mv rfl rfl (av rfl rfl (wl_nil (q_n (k12 _ _ ?_))))
  refine sx_seq fun K13 k13 => sx_region ?_
  refine mv rfl rfl (mv rfl rfl ?_)
  have f14 := f7.chg cwl8 (by omega)
  refine sp rfl (px_index1 (j := k) rfl rfl (by omega) Try.underlying23 Try.sizeOf3 f14 (by omega)) ?_
  refine sp rfl (px_load rfl (f14.load1 (at_int (by omega)) Try.isAgg3)) ?_
  refine mv rfl rfl (sp rfl (px_sub rfl rfl (by omega)) ?_)
  refine av rfl rfl (wl_nil (q_n (k13 _ _ ?_)))
  refine sx_sub (Sub.c 0 rfl (.c 1 rfl (.c 5 rfl (.c 6 rfl (.c 7 rfl (.c 8 rfl (.c 11 rfl (.c 12 rfl .nil)))))))) ?_
  refine sx_seq fun K15 k15 => ?_
  refine sx_seq fun K16 k16 => sx_region ?_
  refine mv rfl rfl (mv rfl rfl ?_)
  have f17 := hvb0.ext cs3
  have f18 := f17.chg cwl8 (by omega)
  refine sp rfl (px_len rfl Try.underlying23 f18) ?_
  refine sp rfl (px_lt rfl rfl) ?_
  refine wl_nil (q_n (k16 _ _ ?_))
  refine sx_condP rfl (fun h109 => ?_) (fun h109 => ?_)
  ·
   refine sx_region ?_
   refine mv rfl rfl (mv rfl rfl (mv rfl rfl (sp rfl (px_index1 (j := k) rfl rfl (by omega) Try.underlying23 Try.sizeOf3 f18 (by omega)) ?_)))
   refine sp rfl (px_load rfl (f18.load1 (at_int (by omega)) Try.isAgg3)) ?_
   refine sp rfl (px_sub rfl rfl (by omega)) ?_
   refine av rfl rfl (wl_nil (q_n (k15 _ _ ?_)))
   refine sx_sub (Sub.c 0 rfl (.c 1 rfl (.c 5 rfl (.c 6 rfl (.c 8 rfl (.c 11 rfl (.c 12 rfl .nil))))))) ?_
   refine sx_seq fun K19 k19 => sx_region ?_
   refine av rfl rfl (wl_nil (q_n (k19 _ _ ?_)))
   refine sx_seq fun K20 k20 => ?_
   refine sx_seq fun K21 k21 => sx_region ?_
   refine mv rfl rfl (sp rfl (px_lt rfl rfl) ?_)
   refine wl_nil (q_n (k21 _ _ ?_))
   refine sx_condP rfl (fun h113 => ?_) (fun h113 => ?_)
   ·
    refine sx_seq fun K22 k22 => sx_region ?_
    refine mv rfl rfl (sp rfl (px_add rfl rfl (by omega)) ?_)
    refine av rfl rfl (wl_nil (q_n (k22 _ _ ?_)))
    refine sx_region ?_
    refine av rfl rfl (wl_nil (q_n (k20 _ _ ?_)))
    refine sx_region ?_
    refine mv rfl rfl (mv rfl rfl ?_)
    refine sx_lit1 rfl xelt23 rfl rfl (fun s23 ws23 ss23 fs23 cs23 => ?_)
    have ns23 := Own.norm (f := (Value.int .i64)) (zs := [((((dg m).getD k 0) - ((c : Nat) : Int)) - ((dg n).getD k 0)) + 1000000000]) fs23
    have zws23 := cs23.size
    have f25 := hs_s.ext cs23
    refine sx_append rfl xelt23 rfl rfl f25 ns23.sv one_int (by omega) (by simp only [List.length_cons, List.length_nil]; omega) (by unfold maxLen; simp only [List.length_cons, List.length_nil]; omega) (fun a24 w24 fw24 cw24 => ?_)
    have nw24 := Own.app (f := (Value.int .i64)) (a := os) (b := [((((dg m).getD k 0) - ((c : Nat) : Int)) - ((dg n).getD k 0)) + 1000000000]) fw24
    have zw24 := cw24.size
    refine av rfl rfl (wl_nil ?_)
    refine q_bn (q_n (k11 _ _ ?_))
    refine sx_sub (Sub.c 0 rfl (.c 1 rfl (.c 5 rfl (.c 6 rfl (.c 11 rfl (.c 12 rfl .nil)))))) ?_
    refine sx_region ?_
    refine sp rfl (px_add rfl rfl (by omega)) ?_
    refine mv rfl rfl (wl_nil ?_)
    have q26 := Chg.step (l := w.heap.size) (h := ws3.heap.size) cwl8 cs23 (by omega)
    have q27 := Chg.step (l := w.heap.size) (h := ws3.heap.size) q26 cw24 (by omega)
    have hs : ((dg m).getD k 0).toNat + Bs * 1 = ((dg n).getD k 0).toNat + c + ((((((dg m).getD k 0) - ((c : Nat) : Int)) - ((dg n).getD k 0)) + 1000000000) : Int).toNat := by simp only [Bs]; omega
    have hv2 : vl ((dg m).take (k + 1)) + Bs ^ (k + 1) * 1 = vl (os ++ [(((((dg m).getD k 0) - ((c : Nat) : Int)) - ((dg n).getD k 0)) + 1000000000)]) + vl ((dg n).take (k + 1)) := by
     rw [vl_concat, hos, vl_take_succ', vl_take_succ', Nat.pow_succ]
     exact sub_step hs hv
    exact fun a ha => ⟨_, by omega, (k + 1), a24, (os ++ ([((((dg m).getD k 0) - ((c : Nat) : Int)) - ((dg n).getD k 0)) + 1000000000])), 1, ha.sub (Sub.c 0 rfl (.c 1 rfl (.c 5 rfl (.c 6 (look_int (t := 6) rfl (by first | omega | simp)) (.c 11 rfl (.c 12 (look_int (t := 12) rfl (by first | omega | simp)) .nil)))))), q27, (nw24.mono (by omega) (by omega)), rfl, by simp [hos], hlm.append (Lm.single (by omega) (by omega)), by omega, by omega, hv2⟩
   refine sx_skip ?_
   refine q_n (k20 _ _ ?_)
   refine sx_region ?_
   refine mv rfl rfl (mv rfl rfl ?_)
   refine sx_lit1 rfl xelt23 rfl rfl (fun s28 ws28 ss28 fs28 cs28 => ?_)
   have ns28 := Own.norm (f := (Value.int .i64)) (zs := [(((dg m).getD k 0) - ((c : Nat) : Int)) - ((dg n).getD k 0)]) fs28
   have zws28 := cs28.size
   have f30 := hs_s.ext cs28
   refine sx_append rfl xelt23 rfl rfl f30 ns28.sv one_int (by omega) (by simp only [List.length_cons, List.length_nil]; omega) (by unfold maxLen; simp only [List.length_cons, List.length_nil]; omega) (fun a29 w29 fw29 cw29 => ?_)
   have nw29 := Own.app (f := (Value.int .i64)) (a := os) (b := [(((dg m).getD k 0) - ((c : Nat) : Int)) - ((dg n).getD k 0)]) fw29
   have zw29 := cw29.size
   refine av rfl rfl (wl_nil ?_)
   refine q_bn (q_n (k11 _ _ ?_))
   refine sx_region ?_
   refine sp rfl (px_add rfl rfl (by omega)) ?_
   refine mv rfl rfl (wl_nil ?_)
   have q31 := Chg.step (l := w.heap.size) (h := ws3.heap.size) cwl8 cs28 (by omega)
   have q32 := Chg.step (l := w.heap.size) (h := ws3.heap.size) q31 cw29 (by omega)
   have hs : ((dg m).getD k 0).toNat + Bs * 0 = ((dg n).getD k 0).toNat + c + (((((dg m).getD k 0) - ((c : Nat) : Int)) - ((dg n).getD k 0)) : Int).toNat := by simp only [Bs]; omega
   have hv2 : vl ((dg m).take (k + 1)) + Bs ^ (k + 1) * 0 = vl (os ++ [((((dg m).getD k 0) - ((c : Nat) : Int)) - ((dg n).getD k 0))]) + vl ((dg n).take (k + 1)) := by
    rw [vl_concat, hos, vl_take_succ', vl_take_succ', Nat.pow_succ]
    exact sub_step hs hv
   exact fun a ha => ⟨_, by omega, (k + 1), a29, (os ++ ([(((dg m).getD k 0) - ((c : Nat) : Int)) - ((dg n).getD k 0)])), 0, ha.sub (Sub.c 0 rfl (.c 1 rfl (.c 5 rfl (.c 6 (look_int (t := 6) rfl (by first | omega | simp)) (.c 11 rfl (.c 12 (look_int (t := 12) rfl (by first | omega | simp)) .nil)))))), q32, (nw29.mono (by omega) (by omega)), rfl, by simp [hos], hlm.append (Lm.single (by omega) (by omega)), by omega, by omega, hv2⟩
  have gn := getD_ge (zs := dg n) (k := k) (by omega)
  refine sx_skip ?_
  refine q_n (k15 _ _ ?_)
  refine sx_seq fun K33 k33 => sx_region ?_
  refine av rfl rfl (wl_nil (q_n (k33 _ _ ?_)))
  refine sx_seq fun K34 k34 => ?_
  refine sx_seq fun K35 k35 => sx_region ?_
  refine mv rfl rfl (sp rfl (px_lt rfl rfl) ?_)
  refine wl_nil (q_n (k35 _ _ ?_))
  refine sx_condP rfl (fun h113 => ?_) (fun h113 => ?_)
  ·
   refine sx_seq fun K36 k36 => sx_region ?_
   refine mv rfl rfl (sp rfl (px_add rfl rfl (by omega)) ?_)
   refine av rfl rfl (wl_nil (q_n (k36 _ _ ?_)))
   refine sx_sub (Sub.c 0 rfl (.c 1 rfl (.c 5 rfl (.c 6 rfl (.c 8 rfl (.c 11 rfl (.c 12 rfl .nil))))))) ?_
   refine sx_region ?_
   refine av rfl rfl (wl_nil (q_n (k34 _ _ ?_)))
   refine sx_region ?_
   refine mv rfl rfl (mv rfl rfl ?_)
   refine sx_lit1 rfl xelt23 rfl rfl (fun s37 ws37 ss37 fs37 cs37 => ?_)
   have ns37 := Own.norm (f := (Value.int .i64)) (zs := [(((dg m).getD k 0) - ((c : Nat) : Int)) + 1000000000]) fs37
   have zws37 := cs37.size
   have f39 := hs_s.ext cs37
   refine sx_append rfl xelt23 rfl rfl f39 ns37.sv one_int (by omega) (by simp only [List.length_cons, List.length_nil]; omega) (by unfold maxLen; simp only [List.length_cons, List.length_nil]; omega) (fun a38 w38 fw38 cw38 => ?_)
   have nw38 := Own.app (f := (Value.int .i64)) (a := os) (b := [(((dg m).getD k 0) - ((c : Nat) : Int)) + 1000000000]) fw38
   have zw38 := cw38.size
   refine av rfl rfl (wl_nil ?_)
   refine q_bn (q_n (k11 _ _ ?_))
   refine sx_region ?_
   refine sp rfl (px_add rfl rfl (by omega)) ?_
   refine mv rfl rfl (wl_nil ?_)
   have q40 := Chg.step (l := w.heap.size) (h := ws3.heap.size) cwl8 cs37 (by omega)
   have q41 := Chg.step (l := w.heap.size) (h := ws3.heap.size) q40 cw38 (by omega)
   have hs : ((dg m).getD k 0).toNat + Bs * 1 = ((dg n).getD k 0).toNat + c + (((((dg m).getD k 0) - ((c : Nat) : Int)) + 1000000000) : Int).toNat := by simp only [Bs]; omega
   have hv2 : vl ((dg m).take (k + 1)) + Bs ^ (k + 1) * 1 = vl (os ++ [((((dg m).getD k 0) - ((c : Nat) : Int)) + 1000000000)]) + vl ((dg n).take (k + 1)) := by
    rw [vl_concat, hos, vl_take_succ', vl_take_succ', Nat.pow_succ]
    exact sub_step hs hv
   exact fun a ha => ⟨_, by omega, (k + 1), a38, (os ++ ([(((dg m).getD k 0) - ((c : Nat) : Int)) + 1000000000])), 1, ha.sub (Sub.c 0 rfl (.c 1 rfl (.c 5 rfl (.c 6 (look_int (t := 6) rfl (by first | omega | simp)) (.c 11 rfl (.c 12 (look_int (t := 12) rfl (by first | omega | simp)) .nil)))))), q41, (nw38.mono (by omega) (by omega)), rfl, by simp [hos], hlm.append (Lm.single (by omega) (by omega)), by omega, by omega, hv2⟩
  refine sx_skip ?_
  refine q_n (k34 _ _ ?_)
  refine sx_region ?_
  refine mv rfl rfl (mv rfl rfl ?_)
  refine sx_lit1 rfl xelt23 rfl rfl (fun s42 ws42 ss42 fs42 cs42 => ?_)
  have ns42 := Own.norm (f := (Value.int .i64)) (zs := [((dg m).getD k 0) - ((c : Nat) : Int)]) fs42
  have zws42 := cs42.size
  have f44 := hs_s.ext cs42
  refine sx_append rfl xelt23 rfl rfl f44 ns42.sv one_int (by omega) (by simp only [List.length_cons, List.length_nil]; omega) (by unfold maxLen; simp only [List.length_cons, List.length_nil]; omega) (fun a43 w43 fw43 cw43 => ?_)
  have nw43 := Own.app (f := (Value.int .i64)) (a := os) (b := [((dg m).getD k 0) - ((c : Nat) : Int)]) fw43
  have zw43 := cw43.size
  refine av rfl rfl (wl_nil ?_)
  refine q_bn (q_n (k11 _ _ ?_))
  refine sx_sub (Sub.c 0 rfl (.c 1 rfl (.c 5 rfl (.c 6 rfl (.c 11 rfl (.c 12 rfl .nil)))))) ?_
  refine sx_region ?_
  refine sp rfl (px_add rfl rfl (by omega)) ?_
  refine mv rfl rfl (wl_nil ?_)
  have q45 := Chg.step (l := w.heap.size) (h := ws3.heap.size) cwl8 cs42 (by omega)
  have q46 := Chg.step (l := w.heap.size) (h := ws3.heap.size) q45 cw43 (by omega)
  have hs : ((dg m).getD k 0).toNat + Bs * 0 = ((dg n).getD k 0).toNat + c + ((((dg m).getD k 0) - ((c : Nat) : Int)) : Int).toNat := by simp only [Bs]; omega
  have hv2 : vl ((dg m).take (k + 1)) + Bs ^ (k + 1) * 0 = vl (os ++ [(((dg m).getD k 0) - ((c : Nat) : Int))]) + vl ((dg n).take (k + 1)) := by
   rw [vl_concat, hos, vl_take_succ', vl_take_succ', Nat.pow_succ]
   exact sub_step hs hv
  exact fun a ha => ⟨_, by omega, (k + 1), a43, (os ++ ([((dg m).getD k 0) - ((c : Nat) : Int)])), 0, ha.sub (Sub.c 0 rfl (.c 1 rfl (.c 5 rfl (.c 6 (look_int (t := 6) rfl (by first | omega | simp)) (.c 11 rfl (.c 12 (look_int (t := 12) rfl (by first | omega | simp)) .nil)))))), q46, (nw43.mono (by omega) (by omega)), rfl, by simp [hos], hlm.append (Lm.single (by omega) (by omega)), by omega, by omega, hv2⟩
 refine sx_exit ?_
 refine q_e (q_e (q_bx (q_n (k5 _ _ ?_))))
 refine sx_seq fun K47 k47 => ?_
 have ek : k = (dg m).length := by omega
 have hnm := len_le hle
 rw [ek, List.take_length, vl_dg, vl_take_ge (show (dg n).length ≤ (dg m).length from hnm), vl_dg] at hv
 have hend := sub_end hv hle (by have h9 := vl_lt hlm; rw [hos, ek] at h9; exact h9) hc
 have hvv := hend.2
 have hz := hlm
 refine sx_region ?_
 refine mv rfl rfl (sx_call rfl rfl Try.call82 (c_l02Trim hs_s (by assumption) (by first | omega | (simp only [List.length_append, List.length_set, List.length_replicate, List.length_cons, List.length_nil] at *; omega))) (fun v48 w48 p48 => ?_))
 obtain ⟨s48, rfl, os_48, c48⟩ := p48
 have zw48 := c48.size
 refine av rfl rfl (wl_nil (q_n (k47 _ _ ?_)))
 refine sx_retc ?_
 refine sx_ret1 Try.results91 rfl ?_
 have hr := Own.sv os_48
 rw [hvv] at hr
 have q49 := Chg.step (l := 0) (h := 0) (Chg.zero (l := 0) (h := 0) cs3) cwl8 (by omega)
 have q50 := Chg.step (l := 0) (h := 0) q49 c48 (by omega)
 exact ⟨_, rfl, hr.mono (by omega) (by omega), q50⟩

theorem c_l03Div {w : World} {va : Value} {lva uva : Nat} {m : Nat} {vb : Value} {lvb uvb : Nat} {n : Nat} (hva : Sl w lva uva va (dg m)) (hvb : Sl w lvb uvb vb (dg n)) (hbm : (dg m).length ≤ 400) (hbn : (dg n).length ≤ 400) (hn0 : 0 < n) :
  Ret Try.prog 84 [va, vb] w fun v w' => ∃ s t, v = .tuple #[s, t] ∧ Sl w' (w.heap.size) (w'.heap.size) s (dg (m / n)) ∧ Sl w' (w.heap.size) (w'.heap.size) t (dg (m % n)) ∧ Chg 0 0 w w' := by
 have hva0 := hva.fit
 have hvb0 := hvb.fit
 refine sx_enter Try.func84 rfl Try.ntmps84 (nbl rfl) ?_
 refine sx_seq fun K1 k1 => sx_region ?_
 refine av rfl rfl (av rfl rfl (wl_nil (q_n (k1 _ _ ?_))))
 refine sx_seq fun K2 k2 => ?_
 refine sx_seq fun K3 k3 => sx_region ?_
 refine mv rfl rfl (sp rfl (px_len rfl Try.underlying23 hvb0) ?_)
 refine sp rfl (px_eq rfl rfl) ?_
 refine wl_nil (q_n (k3 _ _ ?_))
 refine sx_condP rfl (fun h33 => ?_) (fun h33 => ?_)
 ·
  refine sx_seq fun K4 k4 => sx_region ?_
  refine mv rfl rfl (mv rfl rfl (sp rfl (px_index1 (j := 0) rfl rfl (by omega) Try.underlying23 Try.sizeOf3 hvb0 (by omega)) ?_))
  refine sp rfl (px_load rfl (hvb0.load1 (at_int (by omega)) Try.isAgg3)) ?_
  refine sx_call rfl rfl Try.call89 (c_l03Small hva0 (by omega) (by have h9 := one_limb (n := n) (by omega); omega)) (fun v5 w5 p5 => ?_)
  obtain ⟨s5, rfl, os_5, c5⟩ := p5
  have zw5 := c5.size
  refine mv rfl rfl (sp rfl (px_ex2 rfl rfl) ?_)
  refine sp rfl (px_ex2 rfl rfl) ?_
  refine av rfl rfl (av rfl rfl (wl_nil (q_n (k4 _ _ ?_))))
  refine sx_sub (Sub.c 0 rfl (.c 1 rfl (.c 4 rfl (.c 5 rfl (.c 6 rfl (.c 7 rfl .nil)))))) ?_
  refine sx_seq fun K6 k6 => sx_region ?_
  refine mv rfl rfl (mv rfl rfl (sx_call rfl rfl Try.call56 (c_sNatOf (by have h9 := one_limb (n := n) (by omega); have h8 := Nat.mod_lt m (show 0 < ((dg n).getD 0 0).toNat by omega); omega)) (fun v7 w7 p7 => ?_)))
  obtain ⟨s7, rfl, os_7, c7⟩ := p7
  have zw7 := c7.size
  refine av rfl rfl (av rfl rfl (wl_nil (q_n (k6 _ _ ?_))))
  refine sx_retc ?_
  refine q_r (sx_ret2 Try.results84 rfl rfl ?_)
  have e1 := (one_limb (n := n) (by omega)).1
  have f8 := os_5.ext c7
  have r1 := f8
  have r2 := os_7
  rw [Int.toNat_natCast] at r2
  rw [e1] at r1 r2
  exact ⟨_, _, rfl, r1.sv.mono (by omega) (by omega), r2.sv.mono (by omega) (by omega), (c5.t c7)⟩
 refine sx_skip ?_
 refine q_n (k2 _ _ ?_)
 refine sx_seq fun K9 k9 => sx_region ?_
 refine mv rfl rfl (sp rfl (px_len rfl Try.underlying23 hva0) ?_)
 refine sx_make (c := (dg m).length) rfl xelt23 (rfl) (rfl) (by omega) (by unfold maxLen; omega) (fun s10 ws10 fs10 cs10 ls10 => ?_)
 have ns10 := fs10.made
 have zws10 := cs10.size
 refine av rfl rfl (wl_nil (q_n (k9 _ _ ?_)))
 refine sx_seq fun K11 k11 => sx_region ?_
 refine sx_lit0 rfl xelt23 (fun s12 ws12 ss12 fs12 cs12 => ?_)
 have zws12 := cs12.size
 refine av rfl rfl (wl_nil (q_n (k11 _ _ ?_)))
 refine sx_seq fun K13 k13 => ?_
 refine sx_seq fun K14 k14 => sx_region ?_
 refine mv rfl rfl ?_
 have f15 := hva0.ext cs10
 have f16 := f15.ext cs12
 refine sp rfl (px_len rfl Try.underlying23 f16) ?_
 refine sp rfl (px_sub rfl rfl (by omega)) ?_
 refine av rfl rfl (wl_nil (q_n (k14 _ _ ?_)))
 refine sx_sub (Sub.c 0 rfl (.c 1 rfl (.c 4 rfl (.c 5 rfl (.c 8 rfl (.c 9 rfl (.c 10 rfl .nil))))))) ?_
 refine sx_block ?_
 have f18 := ns10.ext cs12
 refine sx_loop (fun mm aa w' => ∃ (k : Nat) (os : List Int) (rs : Value) (R : Nat), Agr 65 [(0, va), (1, vb), (8, s10), (9, rs), (10, .int .i64 (↑k - 1))] aa ∧ Chg w.heap.size ws10.heap.size ws12 w' ∧ Own w' w.heap.size ws10.heap.size s10 intT os.length 1 (os.map (Value.int .i64)) ∧ Sv w' ws10.heap.size w'.heap.size rs ((dg R).length) 1 ((dg R).map (Value.int .i64)) ∧ (mm = k) ∧ (k ≤ (dg m).length) ∧ (os.length = (dg m).length) ∧ (Lm os) ∧ (∀ i, i < k → os.getD i 0 = 0) ∧ (R < n) ∧ ((dg R).length ≤ (dg n).length) ∧ (vl ((dg m).drop k) = n * vl (os.drop k) + R)) (_) (fun a ha => ⟨(dg m).length, List.replicate (dg m).length 0, s12, 0, ha.sub (Sub.c 0 rfl (.c 1 rfl (.c 8 rfl (.c 9 rfl (.c 10 (look_int (t := 10) rfl (by first | omega | simp)) .nil))))), Chg.refl _ _ _, f18, (by rw [dg_zero]; exact (fs12.sv).mono (by omega) (by omega)), rfl, by omega, by simp, Lm.replicate _, zero_rep' _ _, by omega, by rw [dg_zero]; simp, by simp [vl]⟩) ?_
 rintro mm aa wl17 ⟨k, os, rs, R, hAwl17, cwl17, hs_s10, hs_rs, hm, hk, hos, hlm, hz, hR, hlR, hv⟩
 refine (show cw Try.prog 65 _ _ _ wl17 from ?_) aa hAwl17
 clear hAwl17
 have zwl17 := cwl17.size
 have am := (Lm_dg m).getD (k - 1)
 have hzl : Lm ([(dg m).getD (k - 1) 0] ++ dg R) := (Lm.single am.1 am.2).append (Lm_dg R)
 have eV := head_vl ((dg m).getD (k - 1) 0) R
 have lX := len_lt_mul (X := vl ([(dg m).getD (k - 1) 0] ++ dg R)) (n := n) (by omega)
 have hqq := q_limb eV (by omega) hR
 have hqn : (0 : Int) ≤ ((vl ([(dg m).getD (k - 1) 0] ++ dg R) / n : Nat) : Int) := Int.natCast_nonneg _
 have lq := len_u64 (n := ((vl ([(dg m).getD (k - 1) 0] ++ dg R) / n : Nat) : Int)) (by omega)
 have lm := len_mul n (((vl ([(dg m).getD (k - 1) 0] ++ dg R) / n : Nat) : Int)).toNat
 have hme := Nat.mul_div_le (vl ([(dg m).getD (k - 1) 0] ++ dg R)) n
 refine sx_seq fun K19 k19 => ?_
 refine sx_seq fun K20 k20 => sx_region ?_
 refine mv rfl rfl (sp rfl (px_ge rfl rfl) ?_)
 refine wl_nil (q_n (k20 _ _ ?_))
 refine sx_condP rfl (fun h39 => ?_) (fun h39 => ?_)
 ·
  refine sx_skip ?_
  refine q_n (k19 _ _ ?_)
  refine sx_seq fun K21 k21 => ?_
  refine sx_block ?_
  refine sx_seq fun K22 k22 => sx_region ?_
  refine mv rfl rfl (mv rfl rfl ?_)
  have f23 := f16.chg cwl17 (by omega)
  refine sp rfl (px_index1 (j := (k - 1)) rfl rfl (by omega) Try.underlying23 Try.sizeOf3 f23 (by omega)) ?_
  refine sp rfl (px_load rfl (f23.load1 (at_int (by omega)) Try.isAgg3)) ?_
  refine sx_lit1 rfl xelt23 rfl rfl (fun s24 ws24 ss24 fs24 cs24 => ?_)
  have ns24 := Own.norm (f := (Value.int .i64)) (zs := [(dg m).getD (k - 1) 0]) fs24
  have zws24 := cs24.size
  refine mv rfl rfl ?_
  have f26 := hs_rs.ext cs24
  refine sx_append rfl xelt23 rfl rfl ns24 f26 one_int (by omega) (by simp only [List.length_cons, List.length_nil]; omega) (by unfold maxLen; simp only [List.length_cons, List.length_nil]; omega) (fun a25 w25 fw25 cw25 => ?_)
  have nw25 := Own.app (f := (Value.int .i64)) (a := [(dg m).getD (k - 1) 0]) (b := dg R) fw25
  have zw25 := cw25.size
  refine sx_call rfl rfl Try.call82 (c_l02Trim nw25 (by assumption) (by first | omega | (simp only [List.length_append, List.length_set, List.length_replicate, List.length_cons, List.length_nil] at *; omega))) (fun v27 w27 p27 => ?_)
  obtain ⟨s27, rfl, os_27, c27⟩ := p27
  have zw27 := c27.size
  refine av rfl rfl (wl_nil (q_n (k22 _ _ ?_)))
  refine sx_sub (Sub.c 0 rfl (.c 1 rfl (.c 8 rfl (.c 9 rfl (.c 10 rfl .nil))))) ?_
  refine sx_seq fun K28 k28 => ?_
  refine sx_seq fun K29 k29 => sx_region ?_
  refine mv rfl rfl (mv rfl rfl ?_)
  have f30 := hvb0.ext cs10
  have f31 := f30.ext cs12
  have f32 := f31.chg cwl17 (by omega)
  have f33 := f32.ext cs24
  have f34 := f33.chg cw25 (by omega)
  have f35 := f34.ext c27
  refine sx_call rfl rfl Try.call80 (c_l02Cmp os_27.sv f35 (by omega)) (fun v36 w36 p36 => ?_)
  obtain ⟨rfl, c36⟩ := p36
  have zw36 := c36.size
  refine sp rfl (px_lt rfl rfl) ?_
  refine wl_nil (q_n (k29 _ _ ?_))
  refine sx_condP rfl (fun h41 => ?_) (fun h41 => ?_)
  ·
   rw [cmpL_dg] at h41
   have hlt := cmpN_neg.1 h41
   refine sx_exit ?_
   refine q_e (q_bx (q_n (k21 _ _ ?_)))
   refine sx_region ?_
   refine mv rfl rfl (sp rfl (px_sub rfl rfl (by omega)) ?_)
   refine av rfl rfl (wl_nil ?_)
   have q37 := Chg.step (l := w.heap.size) (h := ws10.heap.size) cwl17 cs24 (by omega)
   have q38 := Chg.step (l := w.heap.size) (h := ws10.heap.size) q37 cw25 (by omega)
   have q39 := Chg.step (l := w.heap.size) (h := ws10.heap.size) q38 (c27.t c36) (by omega)
   have f40 := hs_s10.ext cs24
   have f41 := f40.chg cw25 (by omega)
   have f43 := (f41.ext c27).ext c36
   have f44 := os_27.ext c36
   exact fun a ha => ⟨_, by omega, (k - 1), os, v27, (vl (([(dg m).getD (k - 1) 0]) ++ (dg R))), ha.sub (Sub.c 0 rfl (.c 1 rfl (.c 8 rfl (.c 9 rfl (.c 10 (look_int (t := 10) rfl (by first | omega | simp)) .nil))))), q39, (f43.mono (by omega) (by omega)), (f44.sv.mono (by omega) (by omega)), rfl, by omega, by simpa using hos, hlm, fun i hi => hz i (by omega), by omega, by have h9 := len_le (m := (vl (([(dg m).getD (k - 1) 0]) ++ (dg R)))) (n := n) (by have h8 := sub_mod (X := vl ([(dg m).getD (k - 1) 0] ++ dg R)) hn0; omega); omega, down_step (by omega) (by omega) (by omega) (hz _ (by omega)) eV hv⟩
  rw [cmpL_dg] at h41
  have hge := Nat.le_of_not_lt (mt cmpN_neg.2 h41)
  refine sx_skip ?_
  refine q_n (k28 _ _ ?_)
  refine sx_seq fun K45 k45 => sx_region ?_
  refine mv rfl rfl (mv rfl rfl ?_)
  have f46 := os_27.ext c36
  have f47 := f35.ext c36
  refine sx_call rfl rfl Try.call90 (c_l03Digit f46.sv f47 (by omega) (by omega) (by omega)) (fun v48 w48 p48 => ?_)
  obtain ⟨rfl, c48⟩ := p48
  have zw48 := c48.size
  refine av rfl rfl (wl_nil (q_n (k45 _ _ ?_)))
  refine sx_seq fun K49 k49 => sx_region ?_
  refine mv rfl rfl (mv rfl rfl (mv rfl rfl ?_))
  have f50 := hs_s10.ext cs24
  have f51 := f50.chg cw25 (by omega)
  have f54 := ((f51.ext c27).ext c36).ext c48
  refine sp rfl (px_index1 (j := (k - 1)) rfl rfl (by omega) Try.underlying23 Try.sizeOf3 f54.sv (by omega)) ?_
  refine sx_storeO rfl rfl f54 (by first | omega | (simp only [List.length_map]; omega)) Try.sizeOf3 rfl (fun w55 sw55 fw55 cw55 => ?_)
  have zw55 := cw55.size
  have nw55 := fw55.set
  refine wl_nil (q_n (k49 _ _ ?_))
  refine sx_sub (Sub.c 0 rfl (.c 1 rfl (.c 8 rfl (.c 9 rfl (.c 10 rfl (.c 11 rfl .nil)))))) ?_
  refine sx_region ?_
  refine mv rfl rfl (mv rfl rfl (mv rfl rfl (sx_call rfl rfl Try.call56 (c_sNatOf (by omega)) (fun v56 w56 p56 => ?_))))
  obtain ⟨s56, rfl, os_56, c56⟩ := p56
  have zw56 := c56.size
  have f58 := (f47.ext c48).chg cw55 (by omega)
  have f59 := f58.ext c56
  refine sx_call rfl rfl Try.call92 (c_l02Mul f59 os_56.sv (by omega) (by omega)) (fun v60 w60 p60 => ?_)
  obtain ⟨s60, rfl, os_60, c60⟩ := p60
  have zw60 := c60.size
  have f62 := (f46.ext c48).chg cw55 (by omega)
  have f64 := (f62.ext c56).ext c60
  refine sx_call rfl rfl Try.call91 (c_l02Sub f64.sv os_60 (by omega) (by omega) (by rw [Int.toNat_natCast]; exact hme)) (fun v65 w65 p65 => ?_)
  obtain ⟨s65, rfl, os_65, c65⟩ := p65
  have zw65 := c65.size
  refine av rfl rfl (wl_nil ?_)
  refine q_bn (q_n (k21 _ _ ?_))
  refine sx_region ?_
  refine mv rfl rfl (sp rfl (px_sub rfl rfl (by omega)) ?_)
  refine av rfl rfl (wl_nil ?_)
  have q66 := Chg.step (l := w.heap.size) (h := ws10.heap.size) cwl17 cs24 (by omega)
  have q67 := Chg.step (l := w.heap.size) (h := ws10.heap.size) q66 cw25 (by omega)
  have q68 := Chg.step (l := w.heap.size) (h := ws10.heap.size) q67 ((c27.t c36).t c48) (by omega)
  have q69 := Chg.step (l := w.heap.size) (h := ws10.heap.size) q68 cw55 (by omega)
  have q70 := Chg.step (l := w.heap.size) (h := ws10.heap.size) q69 ((c56.t c60).t c65) (by omega)
  have f73 := ((nw55.ext c56).ext c60).ext c65
  exact fun a ha => ⟨_, by omega, (k - 1), ((os).set (k - 1) (((vl (([(dg m).getD (k - 1) 0]) ++ (dg R))) / n : Nat) : Int)), v65, ((vl (([(dg m).getD (k - 1) 0]) ++ (dg R))) - (n * (((((vl (([(dg m).getD (k - 1) 0]) ++ (dg R))) / n : Nat) : Int)).toNat))), ha.sub (Sub.c 0 rfl (.c 1 rfl (.c 8 rfl (.c 9 rfl (.c 10 (look_int (t := 10) rfl (by first | omega | simp)) .nil))))), q70, (f73.mono (by omega) (by omega)), (os_65.mono (by omega) (by omega)), rfl, by omega, by simpa using hos, hlm.set _ (by omega) (by omega), zero_below hz, sub_mod hn0, by have h9 := len_le (m := ((vl (([(dg m).getD (k - 1) 0]) ++ (dg R))) - (n * (((((vl (([(dg m).getD (k - 1) 0]) ++ (dg R))) / n : Nat) : Int)).toNat)))) (n := n) (by have h8 := sub_mod (X := vl ([(dg m).getD (k - 1) 0] ++ dg R)) hn0; omega); omega, div_step (by omega) (by omega) (by omega) eV hn0 hv⟩
 refine sx_exit ?_
 refine q_e (q_e (q_bx (q_n (k13 _ _ ?_))))
 refine sx_seq fun K74 k74 => sx_region ?_
 refine mv rfl rfl (sx_call rfl rfl Try.call82 (c_l02Trim hs_s10 (by assumption) (by first | omega | (simp only [List.length_append, List.length_set, List.length_replicate, List.length_cons, List.length_nil] at *; omega))) (fun v75 w75 p75 => ?_))
 obtain ⟨s75, rfl, os_75, c75⟩ := p75
 have zw75 := c75.size
 refine mv rfl rfl (av rfl rfl (av rfl rfl (wl_nil (q_n (k74 _ _ ?_)))))
 refine sx_retc ?_
 refine sx_ret2 Try.results84 rfl rfl ?_
 have e0 : k = 0 := by omega
 subst e0
 have he := div_end (m := m) (d := n) (v := vl os) (r := R) (by rw [List.drop_zero, List.drop_zero, vl_dg] at hv; exact hv) hR
 have r1 := os_75
 have f76 := hs_rs.ext c75
 have r2 := f76
 rw [he.1] at r1
 rw [he.2] at r2
 have q77 := Chg.step (l := 0) (h := 0) (Chg.zero (l := 0) (h := 0) (cs10.t cs12)) cwl17 (by omega)
 have q78 := Chg.step (l := 0) (h := 0) q77 c75 (by omega)
 exact ⟨_, _, rfl, r1.sv.mono (by omega) (by omega), r2.mono (by omega) (by omega), q78⟩

theorem c_l05Gcd {w : World} {va : Value} {lva uva : Nat} {m : Nat} {vb : Value} {lvb uvb : Nat} {n : Nat} (hva : Sl w lva uva va (dg m)) (hvb : Sl w lvb uvb vb (dg n)) (hbm : (dg m).length ≤ 400) (hbn : (dg n).length ≤ 400) :
  Ret Try.prog 83 [va, vb] w fun v w' => ∃ s, v = s ∧ Sl w' (0) (w'.heap.size) s (dg (Nat.gcd m n)) ∧ Chg 0 0 w w' := by
 have hva0 := hva.fit
 have hvb0 := hvb.fit
 refine sx_enter Try.func83 rfl Try.ntmps83 (nbl rfl) ?_
 refine sx_seq fun K1 k1 => sx_region ?_
 refine av rfl rfl (wl_nil (q_n (k1 _ _ ?_)))
 refine sx_seq fun K2 k2 => sx_region ?_
 refine mv rfl rfl (av rfl rfl (wl_nil (q_n (k2 _ _ ?_))))
 refine sx_seq fun K3 k3 => sx_region ?_
 refine mv rfl rfl (av rfl rfl (wl_nil (q_n (k3 _ _ ?_))))
 refine sx_seq fun K4 k4 => ?_
 refine sx_block ?_
 refine sx_loop (fun mm aa w' => ∃ (xa : Value) (xb : Value) (m2 : Nat) (n2 : Nat), Agr 23 [(5, xa), (6, xb)] aa ∧ Chg 0 0 w w' ∧ Sv w' 0 w'.heap.size xa ((dg m2).length) 1 ((dg m2).map (Value.int .i64)) ∧ Sv w' 0 w'.heap.size xb ((dg n2).length) 1 ((dg n2).map (Value.int .i64)) ∧ (mm = n2) ∧ (Nat.gcd m2 n2 = Nat.gcd m n) ∧ ((dg m2).length ≤ 400 ∧ (dg n2).length ≤ 400)) (_) (fun a ha => ⟨va, vb, m, n, ha.sub (Sub.c 5 rfl (.c 6 rfl .nil)), Chg.refl _ _ _, (hva0.mono (by omega) (by omega)), (hvb0.mono (by omega) (by omega)), rfl, rfl, by omega⟩) ?_
 rintro mm aa wl5 ⟨xa, xb, m2, n2, hAwl5, cwl5, hs_xa, hs_xb, hm, hg, hl2⟩
 refine (show cw Try.prog 23 _ _ _ wl5 from ?_) aa hAwl5
 clear hAwl5
 have zwl5 := cwl5.size
 refine sx_seq fun K6 k6 => ?_
 refine sx_seq fun K7 k7 => sx_region ?_
 refine mv rfl rfl (sp rfl (px_len rfl Try.underlying23 hs_xb) ?_)
 refine sp rfl (px_gt rfl rfl) ?_
 refine wl_nil (q_n (k7 _ _ ?_))
 refine sx_condP rfl (fun h32 => ?_) (fun h32 => ?_)
 ·
  have hn0 : 0 < n2 := len_pos.1 (by omega)
  refine sx_skip ?_
  refine q_n (k6 _ _ ?_)
  refine sx_block ?_
  refine sx_seq fun K8 k8 => sx_region ?_
  refine mv rfl rfl (mv rfl rfl (sx_call rfl rfl Try.call84 (c_l03Div hs_xa hs_xb (by omega) (by omega) (by omega)) (fun v9 w9 p9 => ?_)))
  obtain ⟨s9, t9, rfl, os_9, ot_9, c9⟩ := p9
  have zw9 := c9.size
  refine mv rfl rfl (sp rfl (px_ex2 rfl rfl) ?_)
  refine sp rfl (px_ex2 rfl rfl) ?_
  refine av rfl rfl (av rfl rfl (wl_nil (q_n (k8 _ _ ?_))))
  refine sx_seq fun K10 k10 => sx_region ?_
  refine mv rfl rfl (av rfl rfl (wl_nil (q_n (k10 _ _ ?_))))
  refine sx_region ?_
  refine mv rfl rfl (av rfl rfl (wl_nil ?_))
  have f11 := hs_xb.ext c9
  have hml := Nat.mod_lt m2 hn0
  have hll := len_mod (m := m2) hn0
  exact q_bn (fun a ha => ⟨_, by omega, xb, t9, n2, (m2 % n2), ha.sub (Sub.c 5 rfl (.c 6 rfl .nil)), (cwl5.t c9), (f11.mono (by omega) (by omega)), (ot_9.mono (by omega) (by omega)), rfl, gcd_next.trans hg, by omega⟩)
 refine sx_exit ?_
 refine q_e (q_e (q_bx (q_n (k4 _ _ ?_))))
 refine sx_seq fun K12 k12 => sx_region ?_
 refine mv rfl rfl (av rfl rfl (wl_nil (q_n (k12 _ _ ?_))))
 refine sx_retc ?_
 refine sx_ret1 Try.results83 rfl ?_
 have e0 : n2 = 0 := len_zero.1 (by omega)
 subst e0
 rw [Nat.gcd_zero_right] at hg
 rw [← hg]
 exact ⟨_, rfl, (Sv.mono hs_xa (by omega) (by omega)), cwl5⟩

theorem c_l02Cap {w : World} {va : Value} {lva uva : Nat} {m : Nat} (hva : Sl w lva uva va (dg m)) (h63 : (dg m).length ≤ 1000000) :
  Ret Try.prog 85 [va] w fun v w' => ∃ s, v = s ∧ Sl w' (lva) (uva) s (dg (capN m)) ∧ Chg 0 0 w w' := by
 refine sx_enter Try.func85 rfl Try.ntmps85 (nbl rfl) ?_
 refine sx_seq fun K1 k1 => sx_region ?_
 refine av rfl rfl (wl_nil (q_n (k1 _ _ ?_)))
 refine sx_seq fun K2 k2 => sx_region ?_
 refine mv rfl rfl (sx_call rfl rfl Try.call82 (c_l02TrimD hva (by omega)) (fun v3 w3 p3 => ?_))
 obtain ⟨s3, rfl, os_3, c3⟩ := p3
 have zw3 := c3.size
 refine av rfl rfl (wl_nil (q_n (k2 _ _ ?_)))
 refine sx_seq fun K4 k4 => ?_
 refine sx_seq fun K5 k5 => sx_region ?_
 refine mv rfl rfl (sp rfl (px_len rfl Try.underlying23 os_3) ?_)
 refine sp rfl (px_gt rfl rfl) ?_
 refine wl_nil (q_n (k5 _ _ ?_))
 refine sx_condP rfl (fun h25 => ?_) (fun h25 => ?_)
 ·
  refine sx_seq fun K6 k6 => sx_region ?_
  refine av rfl rfl (wl_nil (q_n (k6 _ _ ?_)))
  refine sx_retc ?_
  refine q_r (sx_ret1 Try.results85 rfl ?_)
  rw [capN_no (by omega), dg_zero]
  exact ⟨_, rfl, Sv.nil _ _ _ _, c3⟩
 refine sx_skip ?_
 refine q_n (k4 _ _ ?_)
 refine sx_seq fun K7 k7 => sx_region ?_
 refine mv rfl rfl (av rfl rfl (wl_nil (q_n (k7 _ _ ?_))))
 refine sx_retc ?_
 refine sx_ret1 Try.results85 rfl ?_
 rw [capN_ok (by omega)]
 exact ⟨_, rfl, (Sv.mono os_3 (by omega) (by omega)), c3⟩

theorem c_l04Make {w : World} {n : Bool} {va : Value} {lva uva : Nat} {m : Nat} (hva : Sl w lva uva va (dg m)) (h63 : (dg m).length ≤ 1000000) :
  Ret Try.prog 55 [.bool n, va] w fun v w' => ∃ s, v = .agg #[.bool (ng (capI n m)), s] ∧ OwnI w' w.heap.size w'.heap.size s intT (dg (capI n m).natAbs) ∧ Chg 0 0 w w' := by
 have hva0 := hva.fit
 have hcap : (dg (capN m)).length ≤ 50 := by unfold capN; split; assumption; rw [dg_zero]; simp
 refine sx_enter Try.func55 rfl Try.ntmps55 (nbl rfl) ?_
 refine sx_seq fun K1 k1 => sx_region ?_
 refine sx_alloc [.bool false, (.slice none 0 0)] rfl Try.zeroValue25 rfl (fun b2 w3 eb2 sb2 fb2 cb2 => ?_)
 have zw3 := cb2.size
 refine wl_nil (q_n (k1 _ _ ?_))
 refine sx_seq fun K4 k4 => sx_region ?_
 refine mv rfl rfl ?_
 have f5 := hva0.ext cb2
 refine sx_call rfl rfl Try.call85 (c_l02Cap f5 (by omega)) (fun v6 w6 p6 => ?_)
 obtain ⟨s6, rfl, os_6, c6⟩ := p6
 have zw6 := c6.size
 refine av rfl rfl (wl_nil (q_n (k4 _ _ ?_)))
 refine sx_seq fun K7 k7 => sx_region ?_
 refine mv rfl rfl (mv rfl rfl ?_)
 refine sx_tmpB (t := 9) rfl (fun h10 => ?_) (fun h10 => ?_)
 ·
  refine sx_guardT rfl rfl rfl ?_
  refine mv rfl rfl ?_
  refine sx_guardT rfl rfl rfl ?_
  refine sp rfl (px_len rfl Try.underlying23 os_6) ?_
  refine sx_guardT rfl rfl rfl ?_
  refine sp rfl (px_gt rfl rfl) ?_
  refine sp rfl (px_pick rfl rfl) ?_
  refine sx_lit0 rfl xelt23 (fun s8 ws8 ss8 fs8 cs8 => ?_)
  have zws8 := cs8.size
  refine mv rfl rfl ?_
  have f10 := os_6.ext cs8
  refine sx_append rfl xelt23 rfl rfl fs8 f10 one_int (by omega) (by first | omega | (simp only [List.length_nil]; omega)) (by unfold maxLen; first | omega | (simp only [List.length_nil]; omega)) (fun a9 w9 fw9 cw9 => ?_)
  have nw9 := Own.norm (f := (Value.int .i64)) (zs := dg (capN m)) fw9
  have zw9 := cw9.size
  refine sp rfl (px_build rfl (xbld25x0x1 rfl nw9.one _)) ?_
  have f13 := (fb2.ext c6).ext cs8
  have f14 := f13.chg cw9 (by omega)
  refine sx_store (vs := [.bool (decide ((0 : Int) < ↑((dg (capN m)).length))), a9]) rfl rfl f14 rfl Try.sizeOf25 (nbl rfl) (one_cons rfl (one_cons nw9.one one_nil)) (fun w11 sw11 fw11 cw11 => ?_)
  have zw11 := cw11.size
  have gw11 : Blk w11 b2 [.bool (decide ((0 : Int) < ↑((dg (capN m)).length))), a9] 25 := fw11
  refine wl_nil (q_n (k7 _ _ ?_))
  refine sx_sub (Sub.c 4 rfl .nil) ?_
  refine sx_retc ?_
  refine sx_ret1 Try.results55 ⟨_, rfl, gw11.loadA (vs := [.bool (decide ((0 : Int) < ↑((dg (capN m)).length))), a9]) (look_lit rfl) Try.isAgg25 Try.sizeOf25⟩ ?_
  have hh := cap_sg n m
  rw [← hh.1, ← hh.2]
  have q15 := Chg.step (l := 0) (h := 0) (Chg.zero (l := 0) (h := 0) ((cb2.t c6).t cs8)) cw9 (by omega)
  have q16 := Chg.step (l := 0) (h := 0) q15 cw11 (by omega)
  have f17 := nw9.chg cw11 (by omega)
  exact ⟨_, by simp [nz, h10], (Own.mono f17 (by omega) (by omega)), q16⟩
 refine sx_guardF rfl rfl rfl rfl rfl rfl ?_
 refine sx_guardF rfl rfl rfl rfl rfl rfl ?_
 refine sx_guardF rfl rfl rfl rfl rfl rfl ?_
 refine sp rfl (px_pick rfl rfl) ?_
 refine sx_lit0 rfl xelt23 (fun s18 ws18 ss18 fs18 cs18 => ?_)
 have zws18 := cs18.size
 refine mv rfl rfl ?_
 have f20 := os_6.ext cs18
 refine sx_append rfl xelt23 rfl rfl fs18 f20 one_int (by omega) (by first | omega | (simp only [List.length_nil]; omega)) (by unfold maxLen; first | omega | (simp only [List.length_nil]; omega)) (fun a19 w19 fw19 cw19 => ?_)
 have nw19 := Own.norm (f := (Value.int .i64)) (zs := dg (capN m)) fw19
 have zw19 := cw19.size
 refine sp rfl (px_build rfl (xbld25x0x1 rfl nw19.one _)) ?_
 have f23 := (fb2.ext c6).ext cs18
 have f24 := f23.chg cw19 (by omega)
 refine sx_store (vs := [.bool false, a19]) rfl rfl f24 rfl Try.sizeOf25 (nbl rfl) (one_cons rfl (one_cons nw19.one one_nil)) (fun w21 sw21 fw21 cw21 => ?_)
 have zw21 := cw21.size
 have gw21 : Blk w21 b2 [.bool false, a19] 25 := fw21
 refine wl_nil (q_n (k7 _ _ ?_))
 refine sx_sub (Sub.c 4 rfl .nil) ?_
 refine sx_retc ?_
 refine sx_ret1 Try.results55 ⟨_, rfl, gw21.loadA (vs := [.bool false, a19]) (look_lit rfl) Try.isAgg25 Try.sizeOf25⟩ ?_
 have hh := cap_sg n m
 rw [← hh.1, ← hh.2]
 have q25 := Chg.step (l := 0) (h := 0) (Chg.zero (l := 0) (h := 0) ((cb2.t c6).t cs18)) cw19 (by omega)
 have q26 := Chg.step (l := 0) (h := 0) q25 cw21 (by omega)
 have f27 := nw19.chg cw21 (by omega)
 exact ⟨_, by simp [nz, h10], (Own.mono f27 (by omega) (by omega)), q26⟩

theorem c_l04MakeMin {w : World} {n : Bool} {va : Value} {lva uva : Nat} {zs : List Int} (hva : Sl w lva uva va (zs)) (hz : zs = dg (-9223372036854775808 : Int).natAbs) :
  Ret Try.prog 55 [.bool n, va] w fun v w' => ∃ s, v = .agg #[.bool (ng (capI n (-9223372036854775808 : Int).natAbs)), s] ∧ OwnI w' w.heap.size w'.heap.size s intT (dg (capI n (-9223372036854775808 : Int).natAbs).natAbs) ∧ Chg 0 0 w w' := by
 subst hz; exact c_l04Make hva (by rw [dg_min]; simp)

theorem c_l05Low {w : World} {n : Bool} {va : Value} {lva uva : Nat} {m : Nat} {vb : Value} {lvb uvb : Nat} {d : Nat} (hva : Sl w lva uva va (dg m)) (hvb : Sl w lvb uvb vb (dg d)) (hbm : (dg m).length ≤ 400) (hbd : (dg d).length ≤ 400) :
  Ret Try.prog 54 [.bool n, va, vb] w fun v w' => ∃ s t ls us lt ut, v = .tuple #[.agg #[.bool ((rR (sgI n m) d).1), s, t], .bool ((rR (sgI n m) d).2.2.2)] ∧ OwnI w' (ls) (us) s intT ((rR (sgI n m) d).2.1) ∧ OwnI w' (lt) (ut) t intT ((rR (sgI n m) d).2.2.1) ∧ (w.heap.size ≤ ls ∧ us ≤ w'.heap.size ∧ w.heap.size ≤ lt ∧ ut ≤ w'.heap.size ∧ (us ≤ lt ∨ ut ≤ ls)) ∧ ((rR (sgI n m) d).2.1.length ≤ 18 ∧ (rR (sgI n m) d).2.2.1.length ≤ 18) ∧ Chg 0 0 w w' := by
 have hva0 := hva.fit
 have hvb0 := hvb.fit
 refine sx_enter Try.func54 rfl Try.ntmps54 (nbl rfl) ?_
 refine sx_seq fun K1 k1 => sx_region ?_
 refine sx_alloc [.bool false, (.slice none 0 0), (.slice none 0 0)] rfl Try.zeroValue27 rfl (fun b2 w3 eb2 sb2 fb2 cb2 => ?_)
 have zw3 := cb2.size
 refine av rfl rfl (wl_nil (q_n (k1 _ _ ?_)))
 refine sx_seq fun K4 k4 => sx_region ?_
 refine mv rfl rfl ?_
 have f5 := hva0.ext cb2
 refine sx_call rfl rfl Try.call82 (c_l02TrimD f5 (by omega)) (fun v6 w6 p6 => ?_)
 obtain ⟨s6, rfl, os_6, c6⟩ := p6
 have zw6 := c6.size
 refine av rfl rfl (wl_nil (q_n (k4 _ _ ?_)))
 refine sx_seq fun K7 k7 => sx_region ?_
 refine mv rfl rfl ?_
 have f8 := hvb0.ext cb2
 have f9 := f8.ext c6
 refine sx_call rfl rfl Try.call82 (c_l02TrimD f9 (by omega)) (fun v10 w10 p10 => ?_)
 obtain ⟨s10, rfl, os_10, c10⟩ := p10
 have zw10 := c10.size
 refine av rfl rfl (wl_nil (q_n (k7 _ _ ?_)))
 refine sx_seq fun K11 k11 => ?_
 refine sx_seq fun K12 k12 => sx_region ?_
 refine mv rfl rfl (sp rfl (px_len rfl Try.underlying23 os_10) ?_)
 refine sp rfl (px_eq rfl rfl) ?_
 refine wl_nil (q_n (k12 _ _ ?_))
 refine sx_condP rfl (fun h17 => ?_) (fun h17 => ?_)
 ·
  refine sx_seq fun K13 k13 => sx_region ?_
  refine sp rfl (px_build rfl (xbld27x  _)) ?_
  have f16 := (fb2.ext c6).ext c10
  refine sx_store (vs := [.bool false, (.slice none 0 0), (.slice none 0 0)]) rfl rfl f16 rfl Try.sizeOf27 (nbl rfl) (o3 rfl rfl rfl) (fun w14 sw14 fw14 cw14 => ?_)
  have zw14 := cw14.size
  have gw14 : Blk w14 b2 [.bool false, (.slice none 0 0), (.slice none 0 0)] 27 := fw14
  refine av rfl rfl (wl_nil (q_n (k13 _ _ ?_)))
  refine sx_sub (Sub.c 0 rfl (.c 6 rfl (.c 7 rfl (.c 8 rfl (.c 9 rfl .nil))))) ?_
  refine sx_retc ?_
  refine q_r (sx_ret2 Try.results54 ⟨_, rfl, gw14.loadA (vs := [.bool false, (.slice none 0 0), (.slice none 0 0)]) (look_lit rfl) Try.isAgg27 Try.sizeOf27⟩ rfl ?_)
  rw [rR_zero (len_zero.1 (by omega))]
  have q17 := Chg.step (l := 0) (h := 0) (Chg.zero (l := 0) (h := 0) ((cb2.t c6).t c10)) cw14 (by omega)
  exact ⟨_, _, w.heap.size, w.heap.size, w.heap.size, w.heap.size, rfl, Own.nil _ _ _ _ _, Own.nil _ _ _ _ _, by omega, ⟨by simp [noR], by simp [noR]⟩, q17⟩
 have hd0 : 0 < d := len_pos.1 (by omega)
 have hgp := gcd_pos_r (m := m) hd0
 have lg := gcd_le_left (m := m) (n := d) (k := max (dg m).length (dg d).length) (by omega) (by omega)
 have lq1 := len_div m (Nat.gcd m d)
 have lq2 := len_div d (Nat.gcd m d)
 refine sx_skip ?_
 refine q_n (k11 _ _ ?_)
 refine sx_seq fun K18 k18 => sx_region ?_
 refine mv rfl rfl (mv rfl rfl ?_)
 have f19 := os_6.ext c10
 refine sx_call rfl rfl Try.call83 (c_l05Gcd f19 os_10 (by omega) (by omega)) (fun v20 w20 p20 => ?_)
 obtain ⟨s20, rfl, os_20, c20⟩ := p20
 have zw20 := c20.size
 refine av rfl rfl (wl_nil (q_n (k18 _ _ ?_)))
 refine sx_sub (Sub.c 0 rfl (.c 6 rfl (.c 7 rfl (.c 8 rfl (.c 9 rfl (.c 10 rfl .nil)))))) ?_
 refine sx_seq fun K21 k21 => sx_region ?_
 refine mv rfl rfl (mv rfl rfl ?_)
 have f22 := f19.ext c20
 refine sx_call rfl rfl Try.call84 (c_l03Div f22 os_20 (by omega) (by omega) (hgp)) (fun v23 w23 p23 => ?_)
 obtain ⟨s23, t23, rfl, os_23, ot_23, c23⟩ := p23
 have zw23 := c23.size
 refine mv rfl rfl (sp rfl (px_ex2 rfl rfl) ?_)
 refine sp rfl (px_ex2 rfl rfl) ?_
 refine av rfl rfl (av rfl rfl (wl_nil (q_n (k21 _ _ ?_))))
 refine sx_seq fun K24 k24 => sx_region ?_
 refine mv rfl rfl (mv rfl rfl ?_)
 have f26 := (os_10.ext c20).ext c23
 have f27 := os_20.ext c23
 refine sx_call rfl rfl Try.call84 (c_l03Div f26 f27 (by omega) (by omega) (hgp)) (fun v28 w28 p28 => ?_)
 obtain ⟨s28, t28, rfl, os_28, ot_28, c28⟩ := p28
 have zw28 := c28.size
 refine mv rfl rfl (sp rfl (px_ex2 rfl rfl) ?_)
 refine sp rfl (px_ex2 rfl rfl) ?_
 refine av rfl rfl (av rfl rfl (wl_nil (q_n (k24 _ _ ?_))))
 refine sx_sub (Sub.c 0 rfl (.c 6 rfl (.c 7 rfl (.c 11 rfl (.c 13 rfl .nil))))) ?_
 refine sx_seq fun K29 k29 => ?_
 refine sx_seq fun K30 k30 => sx_region ?_
 refine mv rfl rfl ?_
 have f31 := os_23.ext c28
 refine sp rfl (px_len rfl Try.underlying23 f31) ?_
 refine sp rfl (px_gt rfl rfl) ?_
 refine mv rfl rfl ?_
 refine sx_tmpP (t := 41) rfl (fun h23 => ?_) (fun h23 => ?_)
 ·
  refine sx_guardF rfl rfl rfl rfl rfl rfl ?_
  refine sx_guardF rfl rfl rfl rfl rfl rfl ?_
  refine sx_guardF rfl rfl rfl rfl rfl rfl ?_
  refine sp rfl (px_pick rfl rfl) ?_
  refine wl_nil (q_n (k30 _ _ ?_))
  refine sx_condT rfl ?_
  refine sx_seq fun K32 k32 => sx_region ?_
  refine sp rfl (px_build rfl (xbld27x  _)) ?_
  have f38 := ((((fb2.ext c6).ext c10).ext c20).ext c23).ext c28
  refine sx_store (vs := [.bool false, (.slice none 0 0), (.slice none 0 0)]) rfl rfl f38 rfl Try.sizeOf27 (nbl rfl) (o3 rfl rfl rfl) (fun w33 sw33 fw33 cw33 => ?_)
  have zw33 := cw33.size
  have gw33 : Blk w33 b2 [.bool false, (.slice none 0 0), (.slice none 0 0)] 27 := fw33
  refine av rfl rfl (wl_nil (q_n (k32 _ _ ?_)))
  refine sx_retc ?_
  refine q_r (sx_ret2 Try.results54 ⟨_, rfl, gw33.loadA (vs := [.bool false, (.slice none 0 0), (.slice none 0 0)]) (look_lit rfl) Try.isAgg27 Try.sizeOf27⟩ rfl ?_)
  rw [rR_no (fun h => by omega)]
  have q39 := Chg.step (l := 0) (h := 0) (Chg.zero (l := 0) (h := 0) (((((cb2.t c6).t c10).t c20).t c23).t c28)) cw33 (by omega)
  exact ⟨_, _, w.heap.size, w.heap.size, w.heap.size, w.heap.size, rfl, Own.nil _ _ _ _ _, Own.nil _ _ _ _ _, by omega, ⟨by simp [noR], by simp [noR]⟩, q39⟩
 refine sx_guardT rfl rfl rfl ?_
 refine mv rfl rfl ?_
 refine sx_guardT rfl rfl rfl ?_
 refine sp rfl (px_len rfl Try.underlying23 os_28) ?_
 refine sx_guardT rfl rfl rfl ?_
 refine sp rfl (px_gt rfl rfl) ?_
 refine sp rfl (px_pick rfl rfl) ?_
 refine wl_nil (q_n (k30 _ _ ?_))
 refine sx_condP rfl (fun h23x1 => ?_) (fun h23x1 => ?_)
 ·
  refine sx_seq fun K40 k40 => sx_region ?_
  refine sp rfl (px_build rfl (xbld27x  _)) ?_
  have f46 := ((((fb2.ext c6).ext c10).ext c20).ext c23).ext c28
  refine sx_store (vs := [.bool false, (.slice none 0 0), (.slice none 0 0)]) rfl rfl f46 rfl Try.sizeOf27 (nbl rfl) (o3 rfl rfl rfl) (fun w41 sw41 fw41 cw41 => ?_)
  have zw41 := cw41.size
  have gw41 : Blk w41 b2 [.bool false, (.slice none 0 0), (.slice none 0 0)] 27 := fw41
  refine av rfl rfl (wl_nil (q_n (k40 _ _ ?_)))
  refine sx_retc ?_
  refine q_r (sx_ret2 Try.results54 ⟨_, rfl, gw41.loadA (vs := [.bool false, (.slice none 0 0), (.slice none 0 0)]) (look_lit rfl) Try.isAgg27 Try.sizeOf27⟩ rfl ?_)
  rw [rR_no (fun h => by omega)]
  have q47 := Chg.step (l := 0) (h := 0) (Chg.zero (l := 0) (h := 0) (((((cb2.t c6).t c10).t c20).t c23).t c28)) cw41 (by omega)
  exact ⟨_, _, w.heap.size, w.heap.size, w.heap.size, w.heap.size, rfl, Own.nil _ _ _ _ _, Own.nil _ _ _ _ _, by omega, ⟨by simp [noR], by simp [noR]⟩, q47⟩
 refine sx_skip ?_
 refine q_n (k29 _ _ ?_)
 refine sx_seq fun K48 k48 => sx_region ?_
 refine mv rfl rfl (mv rfl rfl (sx_call rfl rfl Try.call55 (c_l04Make f31 (by omega)) (fun v49 w49 p49 => ?_)))
 obtain ⟨s49, rfl, os_49, c49⟩ := p49
 have zw49 := c49.size
 refine sx_lit0 rfl xelt23 (fun s50 ws50 ss50 fs50 cs50 => ?_)
 have zws50 := cs50.size
 refine mv rfl rfl ?_
 have f53 := (os_28.ext c49).ext cs50
 refine sx_append rfl xelt23 rfl rfl fs50 f53 one_int (by omega) (by first | omega | (simp only [List.length_nil]; omega)) (by unfold maxLen; first | omega | (simp only [List.length_nil]; omega)) (fun a51 w51 fw51 cw51 => ?_)
 have nw51 := Own.norm (f := (Value.int .i64)) (zs := dg (d / (Nat.gcd m d))) fw51
 have zw51 := cw51.size
 refine sp rfl (px_build rfl (xbld27x0x1 nw51.one _)) ?_
 have f61 := ((((((fb2.ext c6).ext c10).ext c20).ext c23).ext c28).ext c49).ext cs50
 have f62 := f61.chg cw51 (by omega)
 have f63 := os_49.ext cs50
 have f64 := f63.chg cw51 (by omega)
 refine sx_store (vs := [.bool (ng (capI n (m / (Nat.gcd m d)))), s49, a51]) rfl rfl f62 rfl Try.sizeOf27 (nbl rfl) (one_cons rfl (one_cons f64.one (one_cons nw51.one one_nil))) (fun w54 sw54 fw54 cw54 => ?_)
 have zw54 := cw54.size
 have gw54 : Blk w54 b2 [.bool (ng (capI n (m / (Nat.gcd m d)))), s49, a51] 27 := fw54
 refine av rfl rfl (wl_nil (q_n (k48 _ _ ?_)))
 refine sx_sub (Sub.c 6 rfl (.c 7 rfl .nil)) ?_
 refine sx_retc ?_
 refine sx_ret2 Try.results54 ⟨_, rfl, gw54.loadA (vs := [.bool (ng (capI n (m / (Nat.gcd m d)))), s49, a51]) (look_lit rfl) Try.isAgg27 Try.sizeOf27⟩ rfl ?_
 have hrl := rR_len (x := sgI n m) (d := d)
 have hcs := capI_sgI (n := n) (m := m / Nat.gcd m d) (by omega)
 have f65 := f64.chg cw54 (by omega)
 have hr1 := f65
 rw [hcs, sgI_abs] at hr1
 rw [rR_ok hd0 (by omega) (by omega)] at hrl ⊢
 have q66 := Chg.step (l := 0) (h := 0) (Chg.zero (l := 0) (h := 0) (((((((cb2.t c6).t c10).t c20).t c23).t c28).t c49).t cs50)) cw51 (by omega)
 have q67 := Chg.step (l := 0) (h := 0) q66 cw54 (by omega)
 have f68 := nw51.chg cw54 (by omega)
 exact ⟨_, _, _, _, _, _, by rw [hcs, ← ng_sgI], hr1, f68, by omega, hrl, q67⟩

theorem c_sRatMake {w : World} {n1 : Bool} {v1 : Value} {lv1 uv1 : Nat} {z1 : List Int} {n2 : Bool} {v2 : Value} {lv2 uv2 : Nat} {z2 : List Int} (hv1 : Sl w lv1 uv1 v1 (z1)) (hv2 : Sl w lv2 uv2 v2 (z2)) (h63 : z1.length ≤ 4611686018427387904 ∧ z2.length ≤ 4611686018427387904) :
  Ret Try.prog 26 [.agg #[.bool n1, v1], .agg #[.bool n2, v2]] w fun v w' => ∃ s t ls us lt ut, v = .tuple #[.agg #[.bool ((rMake n1 z1 n2 z2).1), s, t], .bool ((rMake n1 z1 n2 z2).2.2.2)] ∧ OwnI w' (ls) (us) s intT ((rMake n1 z1 n2 z2).2.1) ∧ OwnI w' (lt) (ut) t intT ((rMake n1 z1 n2 z2).2.2.1) ∧ (w.heap.size ≤ ls ∧ us ≤ w'.heap.size ∧ w.heap.size ≤ lt ∧ ut ≤ w'.heap.size ∧ (us ≤ lt ∨ ut ≤ ls)) ∧ ((rMake n1 z1 n2 z2).2.1.length ≤ 18 ∧ (rMake n1 z1 n2 z2).2.2.1.length ≤ 18) ∧ Chg 0 0 w w' := by
 have hv10 := hv1.fit
 have hv20 := hv2.fit
 refine sx_enter Try.func26 rfl Try.ntmps26 (nbl rfl) ?_
 refine sx_seq fun K1 k1 => sx_region ?_
 refine sx_box [.bool n1, v1] rfl rfl rfl (fun b2 w3 eb2 sb2 fb2 cb2 => ?_)
 have zw3 := cb2.size
 refine sx_box [.bool n2, v2] rfl rfl rfl (fun b4 w5 eb4 sb4 fb4 cb4 => ?_)
 have zw5 := cb4.size
 refine sx_alloc [.bool false, (.slice none 0 0), (.slice none 0 0)] rfl Try.zeroValue27 rfl (fun b6 w7 eb6 sb6 fb6 cb6 => ?_)
 have zw7 := cb6.size
 refine av rfl rfl (wl_nil (q_n (k1 _ _ ?_)))
 refine sx_seq fun K8 k8 => ?_
 refine sx_seq fun K9 k9 => sx_region ?_
 have f10 := fb2.ext cb4
 have f11 := f10.ext cb6
 refine sp rfl (px_load rfl (f11.loadA (vs := [.bool n1, v1]) (look_lit rfl) Try.isAgg25 Try.sizeOf25)) ?_
 have f12 := hv10.ext cb2
 have f13 := f12.ext cb4
 have f14 := f13.ext cb6
 refine sx_call rfl rfl Try.call53 (c_sIntOk f14 (by omega)) (fun v15 w15 p15 => ?_)
 obtain ⟨rfl, c15⟩ := p15
 have zw15 := c15.size
 refine sp rfl (px_notP rfl) ?_
 refine mv rfl rfl ?_
 refine sx_tmpP (t := 9) rfl (fun h42 => ?_) (fun h42 => ?_)
 ·
  refine sx_guardF rfl rfl rfl rfl rfl rfl ?_
  refine sx_guardF rfl rfl rfl rfl rfl rfl ?_
  refine sx_guardF rfl rfl rfl rfl rfl rfl ?_
  refine sp rfl (px_pick rfl rfl) ?_
  refine wl_nil (q_n (k9 _ _ ?_))
  refine sx_condT rfl ?_
  refine sx_seq fun K16 k16 => sx_region ?_
  refine sp rfl (px_build rfl (xbld27x  _)) ?_
  have f18 := fb6.ext c15
  refine sx_store (vs := [.bool false, (.slice none 0 0), (.slice none 0 0)]) rfl rfl f18 rfl Try.sizeOf27 (nbl rfl) (o3 rfl rfl rfl) (fun w17 sw17 fw17 cw17 => ?_)
  have zw17 := cw17.size
  have gw17 : Blk w17 b6 [.bool false, (.slice none 0 0), (.slice none 0 0)] 27 := fw17
  refine av rfl rfl (wl_nil (q_n (k16 _ _ ?_)))
  refine sx_sub (Sub.c 2 rfl (.c 3 rfl (.c 4 rfl (.c 5 rfl .nil)))) ?_
  refine sx_retc ?_
  refine q_r (sx_ret2 Try.results26 ⟨_, rfl, gw17.loadA (vs := [.bool false, (.slice none 0 0), (.slice none 0 0)]) (look_lit rfl) Try.isAgg27 Try.sizeOf27⟩ rfl ?_)
  rw [rMake_no (by grind)]
  have q19 := Chg.step (l := 0) (h := 0) (Chg.zero (l := 0) (h := 0) (((cb2.t cb4).t cb6).t c15)) cw17 (by omega)
  exact ⟨_, _, w.heap.size, w.heap.size, w.heap.size, w.heap.size, rfl, Own.nil _ _ _ _ _, Own.nil _ _ _ _ _, by omega, ⟨by simp [noR], by simp [noR]⟩, q19⟩
 refine sx_guardT rfl rfl rfl ?_
 have f20 := fb4.ext cb6
 have f21 := f20.ext c15
 refine sp rfl (px_load rfl (f21.loadA (vs := [.bool n2, v2]) (look_lit rfl) Try.isAgg25 Try.sizeOf25)) ?_
 refine sx_guardT rfl rfl rfl ?_
 have f22 := hv20.ext cb2
 have f23 := f22.ext cb4
 have f24 := f23.ext cb6
 have f25 := f24.ext c15
 refine sx_call rfl rfl Try.call53 (c_sIntOk f25 (by omega)) (fun v26 w26 p26 => ?_)
 obtain ⟨rfl, c26⟩ := p26
 have zw26 := c26.size
 refine sx_guardT rfl rfl rfl ?_
 refine sp rfl (px_notP rfl) ?_
 refine sp rfl (px_pick rfl rfl) ?_
 refine wl_nil (q_n (k9 _ _ ?_))
 refine sx_condP rfl (fun h42x1 => ?_) (fun h42x1 => ?_)
 ·
  refine sx_seq fun K27 k27 => sx_region ?_
  refine sp rfl (px_build rfl (xbld27x  _)) ?_
  have f30 := (fb6.ext c15).ext c26
  refine sx_store (vs := [.bool false, (.slice none 0 0), (.slice none 0 0)]) rfl rfl f30 rfl Try.sizeOf27 (nbl rfl) (o3 rfl rfl rfl) (fun w28 sw28 fw28 cw28 => ?_)
  have zw28 := cw28.size
  have gw28 : Blk w28 b6 [.bool false, (.slice none 0 0), (.slice none 0 0)] 27 := fw28
  refine av rfl rfl (wl_nil (q_n (k27 _ _ ?_)))
  refine sx_sub (Sub.c 2 rfl (.c 3 rfl (.c 4 rfl (.c 5 rfl .nil)))) ?_
  refine sx_retc ?_
  refine q_r (sx_ret2 Try.results26 ⟨_, rfl, gw28.loadA (vs := [.bool false, (.slice none 0 0), (.slice none 0 0)]) (look_lit rfl) Try.isAgg27 Try.sizeOf27⟩ rfl ?_)
  rw [rMake_no (by grind)]
  have q31 := Chg.step (l := 0) (h := 0) (Chg.zero (l := 0) (h := 0) ((((cb2.t cb4).t cb6).t c15).t c26)) cw28 (by omega)
  exact ⟨_, _, w.heap.size, w.heap.size, w.heap.size, w.heap.size, rfl, Own.nil _ _ _ _ _, Own.nil _ _ _ _ _, by omega, ⟨by simp [noR], by simp [noR]⟩, q31⟩
 have hI := Decidable.not_not.1 h42
 have hJ := Decidable.not_not.1 h42x1
 obtain ⟨x1, rfl, rfl, hx1⟩ := hI.int
 obtain ⟨x2, rfl, rfl, hx2⟩ := hJ.int
 refine sx_skip ?_
 refine q_n (k8 _ _ ?_)
 refine sx_seq fun K32 k32 => sx_region ?_
 refine sp rfl (px_field rfl xfld25x0) ?_
 have f34 := (f11.ext c15).ext c26
 refine sp rfl (px_load rfl (f34.load1 rfl Try.isAgg4)) ?_
 refine sp rfl (px_field rfl xfld25x0) ?_
 have f35 := f21.ext c26
 refine sp rfl (px_load rfl (f35.load1 rfl Try.isAgg4)) ?_
 refine sp rfl (px_neB Try.underlying4 rfl rfl) ?_
 refine sp rfl (px_field rfl xfld25x1) ?_
 refine sp rfl (px_load rfl (f34.load1 rfl Try.isAgg23)) ?_
 refine sp rfl (px_field rfl xfld25x1) ?_
 refine sp rfl (px_load rfl (f35.load1 rfl Try.isAgg23)) ?_
 have f37 := (f14.ext c15).ext c26
 have f38 := f25.ext c26
 refine sx_call rfl rfl Try.call54 (c_l05Low f37 f38 (by omega) (by omega)) (fun v39 w39 p39 => ?_)
 obtain ⟨s39, t39, ls39, us39, lt39, ut39, rfl, os_39, ot_39, hd39, hl39, c39⟩ := p39
 have zw39 := c39.size
 refine sp rfl (px_ex2 rfl rfl) ?_
 refine sp rfl (px_ex2 rfl rfl) ?_
 have f43 := ((fb6.ext c15).ext c26).ext c39
 refine sx_store (vs := [.bool ((rR (sgI ((ng x1) != (ng x2)) x1.natAbs) x2.natAbs).1), s39, t39]) rfl rfl f43 rfl Try.sizeOf27 (nbl rfl) (one_cons rfl (one_cons os_39.one (one_cons ot_39.one one_nil))) (fun w40 sw40 fw40 cw40 => ?_)
 have zw40 := cw40.size
 have gw40 : Blk w40 b6 [.bool ((rR (sgI ((ng x1) != (ng x2)) x1.natAbs) x2.natAbs).1), s39, t39] 27 := fw40
 refine av rfl rfl (wl_nil (q_n (k32 _ _ ?_)))
 refine sx_sub (Sub.c 4 rfl (.c 5 rfl .nil)) ?_
 refine sx_retc ?_
 refine sx_ret2 Try.results26 ⟨_, rfl, gw40.loadA (vs := [.bool ((rR (sgI ((ng x1) != (ng x2)) x1.natAbs) x2.natAbs).1), s39, t39]) (look_lit rfl) Try.isAgg27 Try.sizeOf27⟩ rfl ?_
 have hrl := rMake_len (n1 := ng x1) (z1 := dg x1.natAbs) (n2 := ng x2) (z2 := dg x2.natAbs)
 rw [rMake_ok hI hJ] at hrl ⊢
 have q44 := Chg.step (l := 0) (h := 0) (Chg.zero (l := 0) (h := 0) (((((cb2.t cb4).t cb6).t c15).t c26).t c39)) cw40 (by omega)
 have f45 := os_39.chg cw40 (by omega)
 have f46 := ot_39.chg cw40 (by omega)
 exact ⟨_, _, _, _, _, _, rfl, f45, f46, by omega, hrl, q44⟩

theorem c_sIntOf {w : World} {n : Int} (hn : -9223372036854775808 ≤ n ∧ n ≤ 9223372036854775807) :
  Ret Try.prog 27 [.int .i64 n] w fun v w' => ∃ s, v = .agg #[.bool (ng n), s] ∧ OwnI w' w.heap.size w'.heap.size s intT (dg (n).natAbs) ∧ Chg 0 0 w w' := by
 refine sx_enter Try.func27 rfl Try.ntmps27 (nbl rfl) ?_
 refine sx_seq fun K1 k1 => sx_region ?_
 refine sx_alloc [.bool false, (.slice none 0 0)] rfl Try.zeroValue25 rfl (fun b2 w3 eb2 sb2 fb2 cb2 => ?_)
 have zw3 := cb2.size
 refine wl_nil (q_n (k1 _ _ ?_))
 refine sx_seq fun K4 k4 => ?_
 refine sx_seq fun K5 k5 => sx_region ?_
 refine mv rfl rfl (sp rfl (px_eq rfl rfl) ?_)
 refine wl_nil (q_n (k5 _ _ ?_))
 refine sx_condP rfl (fun h15 => ?_) (fun h15 => ?_)
 ·
  subst h15
  refine sx_seq fun K6 k6 => sx_region ?_
  refine sx_lit3 rfl xelt23 rfl rfl rfl rfl rfl rfl (fun s7 ws7 ss7 fs7 cs7 => ?_)
  have ns7 := Own.norm (f := (Value.int .i64)) (zs := [854775808, 223372036, 9]) fs7
  have zws7 := cs7.size
  refine sx_call rfl rfl Try.call55 (c_l04MakeMin ns7.sv (dg_min.symm)) (fun v8 w8 p8 => ?_)
  obtain ⟨s8, rfl, os_8, c8⟩ := p8
  have zw8 := c8.size
  have f10 := fb2.ext cs7
  have f11 := f10.ext c8
  refine sx_store (vs := [.bool (ng (capI true (-9223372036854775808 : Int).natAbs)), s8]) rfl rfl f11 rfl Try.sizeOf25 (nbl rfl) (one_cons rfl (one_cons os_8.one one_nil)) (fun w9 sw9 fw9 cw9 => ?_)
  have zw9 := cw9.size
  have gw9 : Blk w9 b2 [.bool (ng (capI true (-9223372036854775808 : Int).natAbs)), s8] 25 := fw9
  refine wl_nil (q_n (k6 _ _ ?_))
  refine sx_retc ?_
  refine q_r (sx_ret1 Try.results27 ⟨_, rfl, gw9.loadA (vs := [.bool (ng (capI true (-9223372036854775808 : Int).natAbs)), s8]) (look_lit rfl) Try.isAgg25 Try.sizeOf25⟩ ?_)
  have e : capI true (-9223372036854775808 : Int).natAbs = -9223372036854775808 := capI_min
  have f12 := os_8.chg cw9 (by omega)
  have hr := f12
  rw [e] at hr
  have q13 := Chg.step (l := 0) (h := 0) (Chg.zero (l := 0) (h := 0) ((cb2.t cs7).t c8)) cw9 (by omega)
  exact ⟨_, by rw [e], hr.mono (by omega) (by omega), q13⟩
 refine sx_skip ?_
 refine q_n (k4 _ _ ?_)
 refine sx_seq fun K14 k14 => ?_
 refine sx_seq fun K15 k15 => sx_region ?_
 refine mv rfl rfl (sp rfl (px_lt rfl rfl) ?_)
 refine wl_nil (q_n (k15 _ _ ?_))
 refine sx_condP rfl (fun h18 => ?_) (fun h18 => ?_)
 ·
  refine sx_seq fun K16 k16 => sx_region ?_
  refine mv rfl rfl (sp rfl (px_neg rfl (by omega)) ?_)
  refine sx_call rfl rfl Try.call56 (c_sNatOf (by omega)) (fun v17 w17 p17 => ?_)
  obtain ⟨s17, rfl, os_17, c17⟩ := p17
  have zw17 := c17.size
  refine sx_call rfl rfl Try.call55 (c_l04Make os_17.sv (by first | (have h9 := len_u64 (n := -n) (by omega); omega) | (have h9 := len_u64 (n := n) (by omega); omega))) (fun v18 w18 p18 => ?_)
  obtain ⟨s18, rfl, os_18, c18⟩ := p18
  have zw18 := c18.size
  have f21 := (fb2.ext c17).ext c18
  refine sx_store (vs := [.bool (ng (capI true (((-n)).toNat))), s18]) rfl rfl f21 rfl Try.sizeOf25 (nbl rfl) (one_cons rfl (one_cons os_18.one one_nil)) (fun w19 sw19 fw19 cw19 => ?_)
  have zw19 := cw19.size
  have gw19 : Blk w19 b2 [.bool (ng (capI true (((-n)).toNat))), s18] 25 := fw19
  refine wl_nil (q_n (k16 _ _ ?_))
  refine sx_retc ?_
  refine q_r (sx_ret1 Try.results27 ⟨_, rfl, gw19.loadA (vs := [.bool (ng (capI true (((-n)).toNat))), s18]) (look_lit rfl) Try.isAgg25 Try.sizeOf25⟩ ?_)
  have e : capI true (-n).toNat = n := capI_neg (by omega)
  have f22 := os_18.chg cw19 (by omega)
  have hr := f22
  rw [e] at hr
  have q23 := Chg.step (l := 0) (h := 0) (Chg.zero (l := 0) (h := 0) ((cb2.t c17).t c18)) cw19 (by omega)
  exact ⟨_, by rw [e], hr.mono (by omega) (by omega), q23⟩
 refine sx_skip ?_
 refine q_n (k14 _ _ ?_)
 refine sx_seq fun K24 k24 => sx_region ?_
 refine mv rfl rfl (sx_call rfl rfl Try.call56 (c_sNatOf (by omega)) (fun v25 w25 p25 => ?_))
 obtain ⟨s25, rfl, os_25, c25⟩ := p25
 have zw25 := c25.size
 refine sx_call rfl rfl Try.call55 (c_l04Make os_25.sv (by first | (have h9 := len_u64 (n := -n) (by omega); omega) | (have h9 := len_u64 (n := n) (by omega); omega))) (fun v26 w26 p26 => ?_)
 obtain ⟨s26, rfl, os_26, c26⟩ := p26
 have zw26 := c26.size
 have f29 := (fb2.ext c25).ext c26
 refine sx_store (vs := [.bool (ng (capI false ((n).toNat))), s26]) rfl rfl f29 rfl Try.sizeOf25 (nbl rfl) (one_cons rfl (one_cons os_26.one one_nil)) (fun w27 sw27 fw27 cw27 => ?_)
 have zw27 := cw27.size
 have gw27 : Blk w27 b2 [.bool (ng (capI false ((n).toNat))), s26] 25 := fw27
 refine wl_nil (q_n (k24 _ _ ?_))
 refine sx_retc ?_
 refine sx_ret1 Try.results27 ⟨_, rfl, gw27.loadA (vs := [.bool (ng (capI false ((n).toNat))), s26]) (look_lit rfl) Try.isAgg25 Try.sizeOf25⟩ ?_
 have e : capI false n.toNat = n := capI_pos (by omega)
 have f30 := os_26.chg cw27 (by omega)
 have hr := f30
 rw [e] at hr
 have q31 := Chg.step (l := 0) (h := 0) (Chg.zero (l := 0) (h := 0) ((cb2.t c25).t c26)) cw27 (by omega)
 exact ⟨_, by rw [e], hr.mono (by omega) (by omega), q31⟩

theorem c_iNatOk {w : World} {va : Value} {lva uva : Nat} {zs : List Int} (hva : Sl w lva uva va (zs)) (h63 : zs.length ≤ 4611686018427387904) :
  Ret Try.prog 61 [va] w fun v w' => v = .bool (decide (NOk zs)) ∧ Chg 0 0 w w' := by
 have hva0 := hva.fit
 refine sx_enter Try.func61 rfl Try.ntmps61 (nbl rfl) ?_
 refine sx_seq fun K1 k1 => sx_region ?_
 refine av rfl rfl (wl_nil (q_n (k1 _ _ ?_)))
 refine sx_seq fun K2 k2 => ?_
 refine sx_seq fun K3 k3 => sx_region ?_
 refine mv rfl rfl (sp rfl (px_len rfl Try.underlying23 hva0) ?_)
 refine sp rfl (px_gt rfl rfl) ?_
 refine mv rfl rfl ?_
 refine sx_tmpP (t := 8) rfl (fun h13 => ?_) (fun h13 => ?_)
 ·
  refine sx_guardF rfl rfl rfl rfl rfl rfl ?_
  refine sx_guardF rfl rfl rfl rfl rfl rfl ?_
  refine sx_guardF rfl rfl rfl rfl rfl rfl ?_
  refine sx_guardF rfl rfl rfl rfl rfl rfl ?_
  refine sx_guardFU rfl rfl rfl rfl rfl ?_
  refine sx_guardFU rfl rfl rfl rfl rfl ?_
  refine sx_guardFU rfl rfl rfl rfl rfl ?_
  refine sx_guardFU rfl rfl rfl rfl rfl ?_
  refine sx_guardFU rfl rfl rfl rfl rfl ?_
  refine sx_guardFU rfl rfl rfl rfl rfl ?_
  refine sx_guardFU rfl rfl rfl rfl rfl ?_
  refine sx_guardF rfl rfl rfl rfl rfl rfl ?_
  refine sp rfl (px_pick rfl rfl) ?_
  refine wl_nil (q_n (k3 _ _ ?_))
  refine sx_sub (Sub.c 0 rfl (.c 2 rfl (.c 21 rfl .nil))) ?_
  refine sx_condT rfl ?_
  refine sx_seq fun K4 k4 => sx_region ?_
  refine av rfl rfl (wl_nil (q_n (k4 _ _ ?_)))
  refine sx_retc ?_
  refine q_r (sx_ret1 Try.results61 rfl ?_)
  exact ⟨bFalse (fun h => by first | (have h1 := h.2.1; omega) | exact h.2.2 ((last_getD (by omega)).2 (by assumption))), (Chg.refl 0 0 _)⟩
 refine sx_guardT rfl rfl rfl ?_
 refine mv rfl rfl ?_
 refine sx_guardT rfl rfl rfl ?_
 refine sp rfl (px_len rfl Try.underlying23 hva0) ?_
 refine sx_guardT rfl rfl rfl ?_
 refine sp rfl (px_gt rfl rfl) ?_
 refine sx_guardT rfl rfl rfl ?_
 refine mv rfl rfl ?_
 refine sx_tmpP (t := 12) rfl (fun h13x1 => ?_) (fun h13x1 => ?_)
 ·
  refine sx_guardT rfl rfl rfl ?_
  refine mv rfl rfl ?_
  refine sx_guardT rfl rfl rfl ?_
  refine mv rfl rfl ?_
  refine sx_guardT rfl rfl rfl ?_
  refine sp rfl (px_len rfl Try.underlying23 hva0) ?_
  refine sx_guardT rfl rfl rfl ?_
  refine sp rfl (px_sub rfl rfl (by omega)) ?_
  refine sx_guardT rfl rfl rfl ?_
  refine sp rfl (px_index1 (j := (zs.length - 1)) rfl rfl (by omega) Try.underlying23 Try.sizeOf3 hva0 (by omega)) ?_
  refine sx_guardT rfl rfl rfl ?_
  refine sp rfl (px_load rfl (hva0.load1 (at_int (by omega)) Try.isAgg3)) ?_
  refine sx_guardT rfl rfl rfl ?_
  refine sp rfl (px_eq rfl rfl) ?_
  refine sx_guardT rfl rfl rfl ?_
  refine sp rfl (px_pick rfl rfl) ?_
  refine sp rfl (px_pick rfl rfl) ?_
  refine wl_nil (q_n (k3 _ _ ?_))
  refine sx_sub (Sub.c 0 rfl (.c 2 rfl (.c 21 rfl .nil))) ?_
  refine sx_condP rfl (fun h13x2 => ?_) (fun h13x2 => ?_)
  ·
   refine sx_seq fun K5 k5 => sx_region ?_
   refine av rfl rfl (wl_nil (q_n (k5 _ _ ?_)))
   refine sx_retc ?_
   refine q_r (sx_ret1 Try.results61 rfl ?_)
   exact ⟨bFalse (fun h => by first | (have h1 := h.2.1; omega) | exact h.2.2 ((last_getD (by omega)).2 (by assumption))), (Chg.refl 0 0 _)⟩
  refine sx_skip ?_
  refine q_n (k2 _ _ ?_)
  refine sx_seq fun K6 k6 => ?_
  refine sx_seq fun K7 k7 => sx_region ?_
  refine mv rfl rfl (sp rfl (px_len rfl Try.underlying23 hva0) ?_)
  refine mv rfl rfl (wl_nil (q_n (k7 _ _ ?_)))
  refine sx_block ?_
  refine sx_loop (fun mm aa w' => ∃ (k : Nat), Agr 35 [(22, va), (23, .int .i64 ↑zs.length), (24, .int .i64 ↑k)] aa ∧ Chg 0 0 w w' ∧ (mm = zs.length - k) ∧ (k ≤ zs.length) ∧ (∀ i, i < k → 0 ≤ zs.getD i 0 ∧ zs.getD i 0 < 1000000000)) (_) (fun a ha => ⟨0, ha.sub (Sub.c 22 rfl (.c 23 (look_int (t := 23) rfl (by first | omega | simp)) (.c 24 (look_int (t := 24) rfl (by first | omega | simp)) .nil))), Chg.refl _ _ _, rfl, by omega, fun i h => by omega⟩) ?_
  rintro mm aa wl8 ⟨k, hAwl8, cwl8, hm, hk, hall⟩
  refine (show cw Try.prog 35 _ _ _ wl8 from ?_) aa hAwl8
  clear hAwl8
  have zwl8 := cwl8.size
  refine sx_seq fun K9 k9 => sx_region ?_
  refine sp rfl (px_lt rfl rfl) ?_
  refine wl_nil (q_n (k9 _ _ ?_))
  refine sx_seq fun K10 k10 => ?_
  refine sx_condP rfl (fun h16 => ?_) (fun h16 => ?_)
  ·
   refine sx_skip ?_
   refine q_n (k10 _ _ ?_)
   refine sx_seq fun K11 k11 => ?_
   refine sx_block ?_
   refine sx_seq fun K12 k12 => sx_region ?_
   have f13 := hva0.ext cwl8
   refine sp rfl (px_index1 (j := k) rfl rfl (by omega) Try.underlying23 Try.sizeOf3 f13 (by omega)) ?_
   refine sp rfl (px_load rfl (f13.load1 (at_int (by omega)) Try.isAgg3)) ?_
   refine av rfl rfl (wl_nil (q_n (k12 _ _ ?_)))
   refine sx_seq fun K14 k14 => sx_region ?_
   refine mv rfl rfl (sp rfl (px_lt rfl rfl) ?_)
   refine mv rfl rfl ?_
   refine sx_tmpP (t := 30) rfl (fun h17 => ?_) (fun h17 => ?_)
   ·
    refine sx_guardF rfl rfl rfl rfl rfl rfl ?_
    refine sx_guardF rfl rfl rfl rfl rfl rfl ?_
    refine sp rfl (px_pick rfl rfl) ?_
    refine wl_nil (q_n (k14 _ _ ?_))
    refine sx_condT rfl ?_
    refine sx_seq fun K15 k15 => sx_region ?_
    refine av rfl rfl (wl_nil (q_n (k15 _ _ ?_)))
    refine sx_retc ?_
    refine q_br (q_r (q_r (q_br (q_r (sx_ret1 Try.results61 rfl ?_)))))
    exact ⟨bFalse (fun h => by have h1 := h.1.getD k; omega), cwl8⟩
   refine sx_guardT rfl rfl rfl ?_
   refine mv rfl rfl ?_
   refine sx_guardT rfl rfl rfl ?_
   refine sp rfl (px_ge rfl rfl) ?_
   refine sp rfl (px_pick rfl rfl) ?_
   refine wl_nil (q_n (k14 _ _ ?_))
   refine sx_condP rfl (fun h17x1 => ?_) (fun h17x1 => ?_)
   ·
    refine sx_seq fun K16 k16 => sx_region ?_
    refine av rfl rfl (wl_nil (q_n (k16 _ _ ?_)))
    refine sx_retc ?_
    refine q_br (q_r (q_r (q_br (q_r (sx_ret1 Try.results61 rfl ?_)))))
    exact ⟨bFalse (fun h => by have h1 := h.1.getD k; omega), cwl8⟩
   refine sx_skip ?_
   refine q_bn (q_n (k11 _ _ ?_))
   refine sx_region ?_
   refine sp rfl (px_add rfl rfl (by omega)) ?_
   refine mv rfl rfl (wl_nil ?_)
   exact fun a ha => ⟨_, by omega, (k + 1), ha.sub (Sub.c 22 rfl (.c 23 rfl (.c 24 (look_int (t := 24) rfl (by first | omega | simp)) .nil))), cwl8, rfl, by omega, lm_succ hall (by omega)⟩
  refine sx_exit ?_
  refine q_e (q_e (q_bx (q_n (k6 _ _ ?_))))
  refine sx_seq fun K17 k17 => sx_region ?_
  refine av rfl rfl (wl_nil (q_n (k17 _ _ ?_)))
  refine sx_retc ?_
  refine sx_ret1 Try.results61 rfl ?_
  have ek : k = zs.length := by omega
  have hz : Lm zs := lm_mem (by rw [← ek]; exact hall)
  exact ⟨bTrue (NOk_mk hz (by omega) (by first | exact .inl (by omega) | exact .inr (by assumption))), cwl8⟩
 refine sx_guardF rfl rfl rfl rfl rfl rfl ?_
 refine sx_guardF rfl rfl rfl rfl rfl rfl ?_
 refine sx_guardF rfl rfl rfl rfl rfl rfl ?_
 refine sx_guardF rfl rfl rfl rfl rfl rfl ?_
 refine sx_guardF rfl rfl rfl rfl rfl rfl ?_
 refine sx_guardF rfl rfl rfl rfl rfl rfl ?_
 refine sx_guardF rfl rfl rfl rfl rfl rfl ?_
 refine sx_guardT rfl rfl rfl ?_
 refine sp rfl (px_pick rfl rfl) ?_
 refine sp rfl (px_pick rfl rfl) ?_
 refine wl_nil (q_n (k3 _ _ ?_))
 refine sx_sub (Sub.c 0 rfl (.c 2 rfl (.c 21 rfl .nil))) ?_
 refine sx_condF rfl ?_
 refine sx_skip ?_
 refine q_n (k2 _ _ ?_)
 refine sx_seq fun K18 k18 => ?_
 refine sx_seq fun K19 k19 => sx_region ?_
 refine mv rfl rfl (sp rfl (px_len rfl Try.underlying23 hva0) ?_)
 refine mv rfl rfl (wl_nil (q_n (k19 _ _ ?_)))
 refine sx_block ?_
 refine sx_loop (fun mm aa w' => ∃ (k : Nat), Agr 35 [(22, va), (23, .int .i64 ↑zs.length), (24, .int .i64 ↑k)] aa ∧ Chg 0 0 w w' ∧ (mm = zs.length - k) ∧ (k ≤ zs.length) ∧ (∀ i, i < k → 0 ≤ zs.getD i 0 ∧ zs.getD i 0 < 1000000000)) (_) (fun a ha => ⟨0, ha.sub (Sub.c 22 rfl (.c 23 (look_int (t := 23) rfl (by first | omega | simp)) (.c 24 (look_int (t := 24) rfl (by first | omega | simp)) .nil))), Chg.refl _ _ _, rfl, by omega, fun i h => by omega⟩) ?_
 rintro mm aa wl20 ⟨k, hAwl20, cwl20, hm, hk, hall⟩
 refine (show cw Try.prog 35 _ _ _ wl20 from ?_) aa hAwl20
 clear hAwl20
 have zwl20 := cwl20.size
 refine sx_seq fun K21 k21 => sx_region ?_
 refine sp rfl (px_lt rfl rfl) ?_
 refine wl_nil (q_n (k21 _ _ ?_))
 refine sx_seq fun K22 k22 => ?_
 refine sx_condP rfl (fun h16 => ?_) (fun h16 => ?_)
 ·
  refine sx_skip ?_
  refine q_n (k22 _ _ ?_)
  refine sx_seq fun K23 k23 => ?_
  refine sx_block ?_
  refine sx_seq fun K24 k24 => sx_region ?_
  have f25 := hva0.ext cwl20
  refine sp rfl (px_index1 (j := k) rfl rfl (by omega) Try.underlying23 Try.sizeOf3 f25 (by omega)) ?_
  refine sp rfl (px_load rfl (f25.load1 (at_int (by omega)) Try.isAgg3)) ?_
  refine av rfl rfl (wl_nil (q_n (k24 _ _ ?_)))
  refine sx_seq fun K26 k26 => sx_region ?_
  refine mv rfl rfl (sp rfl (px_lt rfl rfl) ?_)
  refine mv rfl rfl ?_
  refine sx_tmpP (t := 30) rfl (fun h17 => ?_) (fun h17 => ?_)
  ·
   refine sx_guardF rfl rfl rfl rfl rfl rfl ?_
   refine sx_guardF rfl rfl rfl rfl rfl rfl ?_
   refine sp rfl (px_pick rfl rfl) ?_
   refine wl_nil (q_n (k26 _ _ ?_))
   refine sx_condT rfl ?_
   refine sx_seq fun K27 k27 => sx_region ?_
   refine av rfl rfl (wl_nil (q_n (k27 _ _ ?_)))
   refine sx_retc ?_
   refine q_br (q_r (q_r (q_br (q_r (sx_ret1 Try.results61 rfl ?_)))))
   exact ⟨bFalse (fun h => by have h1 := h.1.getD k; omega), cwl20⟩
  refine sx_guardT rfl rfl rfl ?_
  refine mv rfl rfl ?_
  refine sx_guardT rfl rfl rfl ?_
  refine sp rfl (px_ge rfl rfl) ?_
  refine sp rfl (px_pick rfl rfl) ?_
  refine wl_nil (q_n (k26 _ _ ?_))
  refine sx_condP rfl (fun h17x1 => ?_) (fun h17x1 => ?_)
  ·
   refine sx_seq fun K28 k28 => sx_region ?_
   refine av rfl rfl (wl_nil (q_n (k28 _ _ ?_)))
   refine sx_retc ?_
   refine q_br (q_r (q_r (q_br (q_r (sx_ret1 Try.results61 rfl ?_)))))
   exact ⟨bFalse (fun h => by have h1 := h.1.getD k; omega), cwl20⟩
  refine sx_skip ?_
  refine q_bn (q_n (k23 _ _ ?_))
  refine sx_region ?_
  refine sp rfl (px_add rfl rfl (by omega)) ?_
  refine mv rfl rfl (wl_nil ?_)
  exact fun a ha => ⟨_, by omega, (k + 1), ha.sub (Sub.c 22 rfl (.c 23 rfl (.c 24 (look_int (t := 24) rfl (by first | omega | simp)) .nil))), cwl20, rfl, by omega, lm_succ hall (by omega)⟩
 refine sx_exit ?_
 refine q_e (q_e (q_bx (q_n (k18 _ _ ?_))))
 refine sx_seq fun K29 k29 => sx_region ?_
 refine av rfl rfl (wl_nil (q_n (k29 _ _ ?_)))
 refine sx_retc ?_
 refine sx_ret1 Try.results61 rfl ?_
 have ek : k = zs.length := by omega
 have hz : Lm zs := lm_mem (by rw [← ek]; exact hall)
 exact ⟨bTrue (NOk_mk hz (by omega) (by first | exact .inl (by omega) | exact .inr (by assumption))), cwl20⟩

theorem c_iIntOk {w : World} {n1 : Bool} {v1 : Value} {lv1 uv1 : Nat} {z1 : List Int} (hv1 : Sl w lv1 uv1 v1 (z1)) (h63 : z1.length ≤ 4611686018427387904) :
  Ret Try.prog 38 [.agg #[.bool n1, v1]] w fun v w' => v = .bool (decide (IOk n1 z1)) ∧ Chg 0 0 w w' := by
 have hv10 := hv1.fit
 refine sx_enter Try.func38 rfl Try.ntmps38 (nbl rfl) ?_
 refine sx_seq fun K1 k1 => sx_region ?_
 refine sx_box [.bool n1, v1] rfl rfl rfl (fun b2 w3 eb2 sb2 fb2 cb2 => ?_)
 have zw3 := cb2.size
 refine av rfl rfl (wl_nil (q_n (k1 _ _ ?_)))
 refine sx_seq fun K4 k4 => sx_region ?_
 refine sp rfl (px_field rfl xfld25x1) ?_
 refine sp rfl (px_load rfl (fb2.load1 rfl Try.isAgg23)) ?_
 have f5 := hv10.ext cb2
 refine sx_call rfl rfl Try.call61 (c_iNatOk f5 (by omega)) (fun v6 w6 p6 => ?_)
 obtain ⟨rfl, c6⟩ := p6
 have zw6 := c6.size
 refine mv rfl rfl ?_
 refine sx_tmpP (t := 6) rfl (fun h10 => ?_) (fun h10 => ?_)
 ·
  refine sx_guardT rfl rfl rfl ?_
  refine sp rfl (px_field rfl xfld25x0) ?_
  refine sx_guardT rfl rfl rfl ?_
  have f7 := fb2.ext c6
  refine sp rfl (px_load rfl (f7.load1 rfl Try.isAgg4)) ?_
  refine sx_guardT rfl rfl rfl ?_
  refine sp rfl (px_not rfl) ?_
  refine sx_guardT rfl rfl rfl ?_
  refine mv rfl rfl ?_
  refine sx_tmpB (t := 10) rfl (fun h10x1 => ?_) (fun h10x1 => ?_)
  ·
   refine sx_guardF rfl rfl rfl rfl rfl rfl ?_
   refine sx_guardF rfl rfl rfl rfl rfl rfl ?_
   refine sx_guardF rfl rfl rfl rfl rfl rfl ?_
   refine sx_guardF rfl rfl rfl rfl rfl rfl ?_
   refine sx_guardT rfl rfl rfl ?_
   refine sp rfl (px_pick rfl rfl) ?_
   refine sp rfl (px_pick rfl rfl) ?_
   refine av rfl rfl (wl_nil (q_n (k4 _ _ ?_)))
   refine sx_sub (Sub.c 2 rfl .nil) ?_
   refine sx_retc ?_
   refine sx_ret1 Try.results38 rfl ?_
   exact ⟨(by first | exact bTrue (by grind [IOk]) | exact bFalse (by grind [IOk]) | exact bIff (by grind [IOk])), (cb2.t c6)⟩
  refine sx_guardT rfl rfl rfl ?_
  refine sp rfl (px_field rfl xfld25x1) ?_
  refine sx_guardT rfl rfl rfl ?_
  refine sp rfl (px_load rfl (f7.load1 rfl Try.isAgg23)) ?_
  refine sx_guardT rfl rfl rfl ?_
  have f8 := f5.ext c6
  refine sp rfl (px_len rfl Try.underlying23 f8) ?_
  refine sx_guardT rfl rfl rfl ?_
  refine sp rfl (px_gt rfl rfl) ?_
  refine sx_guardT rfl rfl rfl ?_
  refine sp rfl (px_pick rfl rfl) ?_
  refine sp rfl (px_pick rfl rfl) ?_
  refine av rfl rfl (wl_nil (q_n (k4 _ _ ?_)))
  refine sx_sub (Sub.c 2 rfl .nil) ?_
  refine sx_retc ?_
  refine sx_ret1 Try.results38 rfl ?_
  exact ⟨(by first | exact bTrue (by grind [IOk]) | exact bFalse (by grind [IOk]) | exact bIff (by grind [IOk])), (cb2.t c6)⟩
 refine sx_guardF rfl rfl rfl rfl rfl rfl ?_
 refine sx_guardF rfl rfl rfl rfl rfl rfl ?_
 refine sx_guardF rfl rfl rfl rfl rfl rfl ?_
 refine sx_guardF rfl rfl rfl rfl rfl rfl ?_
 refine sx_guardFU rfl rfl rfl rfl rfl ?_
 refine sx_guardFU rfl rfl rfl rfl rfl ?_
 refine sx_guardFU rfl rfl rfl rfl rfl ?_
 refine sx_guardFU rfl rfl rfl rfl rfl ?_
 refine sx_guardF rfl rfl rfl rfl rfl rfl ?_
 refine sp rfl (px_pick rfl rfl) ?_
 refine av rfl rfl (wl_nil (q_n (k4 _ _ ?_)))
 refine sx_sub (Sub.c 2 rfl .nil) ?_
 refine sx_retc ?_
 refine sx_ret1 Try.results38 rfl ?_
 exact ⟨(by first | exact bTrue (by grind [IOk]) | exact bFalse (by grind [IOk]) | exact bIff (by grind [IOk])), (cb2.t c6)⟩

theorem c_natCmp {w : World} {va : Value} {lva uva : Nat} {zs : List Int} {vb : Value} {lvb uvb : Nat} {ys : List Int} (hva : Sl w lva uva va (zs)) (hvb : Sl w lvb uvb vb (ys)) (h63 : zs.length ≤ 4611686018427387904 ∧ ys.length ≤ 4611686018427387904) :
  Ret Try.prog 65 [va, vb] w fun v w' => v = .int .i64 (cmpL zs ys) ∧ Chg 0 0 w w' := by
 have hva0 := hva.fit
 have hvb0 := hvb.fit
 have zs0 : zs.drop zs.length = [] := by simp
 have ys0 : ys.drop ys.length = [] := by simp
 refine sx_enter Try.func65 rfl Try.ntmps65 (nbl rfl) ?_
 refine sx_seq fun K1 k1 => sx_region ?_
 refine av rfl rfl (wl_nil (q_n (k1 _ _ ?_)))
 refine sx_seq fun K2 k2 => ?_
 refine sx_seq fun K3 k3 => sx_region ?_
 refine mv rfl rfl (sp rfl (px_len rfl Try.underlying23 hva0) ?_)
 refine mv rfl rfl (sp rfl (px_len rfl Try.underlying23 hvb0) ?_)
 refine sp rfl (px_ne rfl rfl) ?_
 refine wl_nil (q_n (k3 _ _ ?_))
 refine sx_condP rfl (fun h76 => ?_) (fun h76 => ?_)
 ·
  refine sx_seq fun K4 k4 => ?_
  refine sx_seq fun K5 k5 => sx_region ?_
  refine mv rfl rfl (sp rfl (px_len rfl Try.underlying23 hva0) ?_)
  refine mv rfl rfl (sp rfl (px_len rfl Try.underlying23 hvb0) ?_)
  refine sp rfl (px_lt rfl rfl) ?_
  refine wl_nil (q_n (k5 _ _ ?_))
  refine sx_condP rfl (fun h77 => ?_) (fun h77 => ?_)
  ·
   refine sx_seq fun K6 k6 => sx_region ?_
   refine av rfl rfl (wl_nil (q_n (k6 _ _ ?_)))
   refine sx_retc ?_
   refine q_r (q_r (sx_ret1 Try.results65 rfl ?_))
   exact ⟨iEq (cmpL_short (by omega)).symm, (Chg.refl 0 0 _)⟩
  refine sx_skip ?_
  refine q_n (k4 _ _ ?_)
  refine sx_seq fun K7 k7 => sx_region ?_
  refine av rfl rfl (wl_nil (q_n (k7 _ _ ?_)))
  refine sx_retc ?_
  refine q_r (sx_ret1 Try.results65 rfl ?_)
  exact ⟨iEq (cmpL_long (by omega)).symm, (Chg.refl 0 0 _)⟩
 refine sx_skip ?_
 refine q_n (k2 _ _ ?_)
 refine sx_seq fun K8 k8 => ?_
 refine sx_seq fun K9 k9 => sx_region ?_
 refine mv rfl rfl (sp rfl (px_len rfl Try.underlying23 hva0) ?_)
 refine sp rfl (px_sub rfl rfl (by omega)) ?_
 refine av rfl rfl (wl_nil (q_n (k9 _ _ ?_)))
 refine sx_block ?_
 have e00 : zs.length = ys.length := by omega
 have he0 : zs.drop zs.length = ys.drop zs.length := by rw [zs0, e00, ys0]
 refine sx_loop (fun mm aa w' => ∃ (k : Nat), Agr 41 [(0, va), (1, vb), (5, .int .i64 (↑k - 1))] aa ∧ Chg 0 0 w w' ∧ (mm = k) ∧ (k ≤ zs.length) ∧ (zs.drop k = ys.drop k)) (_) (fun a ha => ⟨zs.length, ha.sub (Sub.c 0 rfl (.c 1 rfl (.c 5 (look_int (t := 5) rfl (by first | omega | simp)) .nil))), Chg.refl _ _ _, rfl, by omega, he0⟩) ?_
 rintro mm aa wl10 ⟨k, hAwl10, cwl10, hm, hk, he⟩
 refine (show cw Try.prog 41 _ _ _ wl10 from ?_) aa hAwl10
 clear hAwl10
 have zwl10 := cwl10.size
 have hl : zs.length = ys.length := by omega
 refine sx_seq fun K11 k11 => ?_
 refine sx_seq fun K12 k12 => sx_region ?_
 refine mv rfl rfl (sp rfl (px_ge rfl rfl) ?_)
 refine wl_nil (q_n (k12 _ _ ?_))
 refine sx_condP rfl (fun h82 => ?_) (fun h82 => ?_)
 ·
  refine sx_skip ?_
  refine q_n (k11 _ _ ?_)
  refine sx_seq fun K13 k13 => ?_
  refine sx_block ?_
  refine sx_seq fun K14 k14 => ?_
  have f15 := hva0.ext cwl10
  have f16 := hvb0.ext cwl10
  refine dx_region (fun w' => Chg 0 0 wl10 w') (by kernel_rfl) (Chg.zero (Chg.drew _)) ?_
  have d17 := Chg.drew wl10
  have s17 : Chg 0 0 wl10 (World.drew wl10) := Chg.zero (Chg.drew _)
  have y17 : (World.drew wl10).heap.size = wl10.heap.size := rfl
  generalize World.drew wl10 = w17 at *
  have zw17 := d17.size
  refine dt 0 rfl rfl rfl rfl s17 (fun _ hS => px_move rfl) ?_
  refine dt 1 rfl rfl rfl rfl s17 (fun _ hS => px_move rfl) ?_
  refine dt 2 rfl rfl rfl rfl s17 (fun _ hS => px_index1 (j := (k - 1)) rfl rfl (by omega) Try.underlying23 Try.sizeOf3 ((f15).chg hS (by omega)) (by omega)) ?_
  refine dt 3 rfl rfl rfl rfl s17 (fun _ hS => px_load rfl (((f15).chg hS (by omega)).load1 (at_int (by omega)) Try.isAgg3)) ?_
  refine dt 4 rfl rfl rfl rfl s17 (fun _ hS => px_move rfl) ?_
  refine dt 5 rfl rfl rfl rfl s17 (fun _ hS => px_move rfl) ?_
  refine dt 6 rfl rfl rfl rfl s17 (fun _ hS => px_index1 (j := (k - 1)) rfl rfl (by omega) Try.underlying23 Try.sizeOf3 ((f16).chg hS (by omega)) (by omega)) ?_
  refine dt 7 rfl rfl rfl rfl s17 (fun _ hS => px_load rfl (((f16).chg hS (by omega)).load1 (at_int (by omega)) Try.isAgg3)) ?_
  refine dt 8 rfl rfl rfl rfl s17 (fun _ hS => px_ne rfl rfl) ?_
  refine dx_done (by kernel_rfl) ?_
  refine q_n (k14 _ _ ?_)
  refine sx_condP rfl (fun h83 => ?_) (fun h83 => ?_)
  ·
   refine sx_seq fun K18 k18 => ?_
   refine sx_seq fun K19 k19 => ?_
   have f20 := f15.ext d17
   have f21 := f16.ext d17
   refine dx_region (fun w' => Chg 0 0 w17 w') (by kernel_rfl) (Chg.zero (Chg.drew _)) ?_
   have d22 := Chg.drew w17
   have s22 : Chg 0 0 w17 (World.drew w17) := Chg.zero (Chg.drew _)
   have y22 : (World.drew w17).heap.size = w17.heap.size := rfl
   generalize World.drew w17 = w22 at *
   have zw22 := d22.size
   refine dt 0 rfl rfl rfl rfl s22 (fun _ hS => px_move rfl) ?_
   refine dt 1 rfl rfl rfl rfl s22 (fun _ hS => px_move rfl) ?_
   refine dt 2 rfl rfl rfl rfl s22 (fun _ hS => px_index1 (j := (k - 1)) rfl rfl (by omega) Try.underlying23 Try.sizeOf3 ((f20).chg hS (by omega)) (by omega)) ?_
   refine dt 3 rfl rfl rfl rfl s22 (fun _ hS => px_load rfl (((f20).chg hS (by omega)).load1 (at_int (by omega)) Try.isAgg3)) ?_
   refine dt 4 rfl rfl rfl rfl s22 (fun _ hS => px_move rfl) ?_
   refine dt 5 rfl rfl rfl rfl s22 (fun _ hS => px_move rfl) ?_
   refine dt 6 rfl rfl rfl rfl s22 (fun _ hS => px_index1 (j := (k - 1)) rfl rfl (by omega) Try.underlying23 Try.sizeOf3 ((f21).chg hS (by omega)) (by omega)) ?_
   refine dt 7 rfl rfl rfl rfl s22 (fun _ hS => px_load rfl (((f21).chg hS (by omega)).load1 (at_int (by omega)) Try.isAgg3)) ?_
   refine dt 8 rfl rfl rfl rfl s22 (fun _ hS => px_lt rfl rfl) ?_
   refine dx_done (by kernel_rfl) ?_
   refine q_n (k19 _ _ ?_)
   refine sx_sub (Sub.c 0 rfl (.c 1 rfl (.c 5 rfl (.c 40 rfl .nil)))) ?_
   refine sx_condP rfl (fun h84 => ?_) (fun h84 => ?_)
   ·
    refine sx_seq fun K23 k23 => sx_region ?_
    refine av rfl rfl (wl_nil (q_n (k23 _ _ ?_)))
    refine sx_retc ?_
    refine q_r (q_br (q_r (q_r (q_br (q_r (sx_ret1 Try.results65 rfl ?_))))))
    have hlt := cmpL_lt hl (k := k - 1) (by omega) (by rw [Nat.sub_add_cancel (by omega)]; exact he) (h84)
    exact ⟨iEq hlt.symm, ((cwl10.t d17).t d22)⟩
   refine sx_skip ?_
   refine q_n (k18 _ _ ?_)
   refine sx_seq fun K24 k24 => sx_region ?_
   refine av rfl rfl (wl_nil (q_n (k24 _ _ ?_)))
   refine sx_retc ?_
   refine q_br (q_r (q_r (q_br (q_r (sx_ret1 Try.results65 rfl ?_)))))
   have hlt := cmpL_gt hl (k := k - 1) (by omega) (by rw [Nat.sub_add_cancel (by omega)]; exact he) (by omega)
   exact ⟨iEq hlt.symm, ((cwl10.t d17).t d22)⟩
  refine sx_skip ?_
  refine q_bn (q_n (k13 _ _ ?_))
  refine sx_region ?_
  refine mv rfl rfl (sp rfl (px_sub rfl rfl (by omega)) ?_)
  refine av rfl rfl (wl_nil ?_)
  exact fun a ha => ⟨_, by omega, (k - 1), ha.sub (Sub.c 0 rfl (.c 1 rfl (.c 5 (look_int (t := 5) rfl (by first | omega | simp)) .nil))), (cwl10.t d17), rfl, by omega, drop_succ_eq (by omega) (by omega) (by rw [Nat.sub_add_cancel (by omega)]; exact he) (by omega)⟩
 refine sx_exit ?_
 refine q_e (q_e (q_bx (q_n (k8 _ _ ?_))))
 refine sx_seq fun K25 k25 => sx_region ?_
 refine av rfl rfl (wl_nil (q_n (k25 _ _ ?_)))
 refine sx_retc ?_
 refine sx_ret1 Try.results65 rfl ?_
 have e1 : k = 0 := by omega
 subst e1
 have e2 : zs = ys := by simpa using he
 subst e2
 exact ⟨iEq (cmpL_self zs).symm, cwl10⟩

theorem c_natCopy {w : World} {va : Value} {lva uva : Nat} {zs : List Int} (hva : Sl w lva uva va (zs)) (h63 : zs.length ≤ 1048576) :
  Ret Try.prog 63 [va] w fun v w' => ∃ s, v = s ∧ OwnI w' w.heap.size w'.heap.size s intT (zs) ∧ Chg 0 0 w w' := by
 have hva0 := hva.fit
 refine sx_enter Try.func63 rfl Try.ntmps63 (nbl rfl) ?_
 refine sx_seq fun K1 k1 => sx_region ?_
 refine av rfl rfl (wl_nil (q_n (k1 _ _ ?_)))
 refine sx_seq fun K2 k2 => sx_region ?_
 refine sx_lit0 rfl xelt23 (fun s3 ws3 ss3 fs3 cs3 => ?_)
 have zws3 := cs3.size
 refine mv rfl rfl ?_
 have f5 := hva0.ext cs3
 refine sx_append rfl xelt23 rfl rfl fs3 f5 one_int (by omega) (by omega) (by unfold maxLen; omega) (fun a4 w4 fw4 cw4 => ?_)
 have nw4 := Own.norm (f := (Value.int .i64)) (zs := zs) fw4
 have zw4 := cw4.size
 refine av rfl rfl (wl_nil (q_n (k2 _ _ ?_)))
 refine sx_retc ?_
 refine sx_ret1 Try.results63 rfl ?_
 have q6 := Chg.step (l := 0) (h := 0) (Chg.zero (l := 0) (h := 0) cs3) cw4 (by omega)
 exact ⟨_, rfl, Own.mono nw4 (by omega) (by omega), q6⟩

theorem c_trim {w : World} {va : Value} {lva uva : Nat} {zs : List Int} (hva : OwnI w lva uva va intT (zs)) (hz : Lm zs) (h63 : zs.length ≤ 1000000) :
  Ret Try.prog 79 [va] w fun v w' => ∃ s, v = s ∧ OwnI w' (lva) (uva) s intT (dg (vl zs)) ∧ Chg 0 0 w w' := by
 refine sx_enter Try.func79 rfl Try.ntmps79 (nbl rfl) ?_
 refine sx_seq fun K1 k1 => sx_region ?_
 refine av rfl rfl (wl_nil (q_n (k1 _ _ ?_)))
 refine sx_seq fun K2 k2 => ?_
 refine sx_block ?_
 refine sx_loop (fun mm aa w' => ∃ (k : Nat) (s : Value), Agr 21 [(0, s)] aa ∧ Chg 0 0 w w' ∧ Own w' lva uva s intT ((zs.take k).length) 1 ((zs.take k).map (Value.int .i64)) ∧ (mm = k) ∧ (k ≤ zs.length) ∧ (vl (zs.take k) = vl zs)) (_) (fun a ha => ⟨zs.length, va, ha.sub (Sub.c 0 rfl .nil), Chg.refl _ _ _, (by rw [List.take_length]; exact hva), rfl, by omega, vl_take_all zs⟩) ?_
 rintro mm aa wl3 ⟨k, s, hAwl3, cwl3, hs_s, hm, hk, hv⟩
 refine (show cw Try.prog 21 _ _ _ wl3 from ?_) aa hAwl3
 clear hAwl3
 have zwl3 := cwl3.size
 have hlt : (zs.take k).length = k := by rw [List.length_take]; omega
 refine sx_seq fun K4 k4 => ?_
 refine sx_seq fun K5 k5 => sx_region ?_
 refine mv rfl rfl (sp rfl (px_len rfl Try.underlying23 hs_s.sv) ?_)
 refine sp rfl (px_gt rfl rfl) ?_
 refine mv rfl rfl ?_
 refine sx_tmpP (t := 6) rfl (fun h29 => ?_) (fun h29 => ?_)
 ·
  refine sx_guardT rfl rfl rfl ?_
  refine mv rfl rfl ?_
  refine sx_guardT rfl rfl rfl ?_
  refine mv rfl rfl ?_
  refine sx_guardT rfl rfl rfl ?_
  refine sp rfl (px_len rfl Try.underlying23 hs_s.sv) ?_
  refine sx_guardT rfl rfl rfl ?_
  refine sp rfl (px_sub rfl rfl (by omega)) ?_
  refine sx_guardT rfl rfl rfl ?_
  refine sp rfl (px_index1 (j := (k - 1)) rfl rfl (by omega) Try.underlying23 Try.sizeOf3 hs_s.sv (by omega)) ?_
  refine sx_guardT rfl rfl rfl ?_
  refine sp rfl (px_load rfl (hs_s.sv.load1 (at_int (by omega)) Try.isAgg3)) ?_
  refine sx_guardT rfl rfl rfl ?_
  refine sp rfl (px_eq rfl rfl) ?_
  refine sp rfl (px_pick rfl rfl) ?_
  refine wl_nil (q_n (k5 _ _ ?_))
  refine sx_condP rfl (fun h29x1 => ?_) (fun h29x1 => ?_)
  ·
   refine sx_skip ?_
   refine q_n (k4 _ _ ?_)
   refine sx_block ?_
   refine sx_region ?_
   refine mv rfl rfl (mv rfl rfl (sp rfl (px_len rfl Try.underlying23 hs_s.sv) ?_))
   refine sp rfl (px_sub rfl rfl (by omega)) ?_
   refine sp rfl (px_sliceTo (h := (k - 1)) rfl rfl (by omega) Try.underlying23 Try.sizeOf3 hs_s.sv (by omega)) ?_
   refine av rfl rfl (wl_nil ?_)
   exact q_bn (fun a ha => ⟨_, by omega, (k - 1), (vtake s (k - 1)), ha.sub (Sub.c 0 rfl .nil), cwl3, (by have hh := (Own.takeI hs_s (h := (k - 1)) (by omega)); rwa [List.take_take, Nat.min_eq_left (by omega)] at hh), rfl, by omega, trim_step (by omega) hk h29x1 hv⟩)
  refine sx_exit ?_
  refine q_e (q_e (q_bx (q_n (k2 _ _ ?_))))
  refine sx_seq fun K6 k6 => sx_region ?_
  refine mv rfl rfl (av rfl rfl (wl_nil (q_n (k6 _ _ ?_))))
  refine sx_sub (Sub.c 2 rfl .nil) ?_
  refine sx_retc ?_
  refine sx_ret1 Try.results79 rfl ?_
  have hd := trim_done hz hk hv (by first | exact .inl (by omega) | exact .inr (by assumption))
  rw [← hd]
  exact ⟨_, rfl, hs_s, cwl3⟩
 refine sx_guardF rfl rfl rfl rfl rfl rfl ?_
 refine sx_guardF rfl rfl rfl rfl rfl rfl ?_
 refine sx_guardF rfl rfl rfl rfl rfl rfl ?_
 refine sx_guardF rfl rfl rfl rfl rfl rfl ?_
 refine sx_guardF rfl rfl rfl rfl rfl rfl ?_
 refine sx_guardF rfl rfl rfl rfl rfl rfl ?_
 refine sx_guardF rfl rfl rfl rfl rfl rfl ?_
 refine sp rfl (px_pick rfl rfl) ?_
 refine wl_nil (q_n (k5 _ _ ?_))
 refine sx_condF rfl ?_
 refine sx_exit ?_
 refine q_e (q_e (q_bx (q_n (k2 _ _ ?_))))
 refine sx_seq fun K7 k7 => sx_region ?_
 refine mv rfl rfl (av rfl rfl (wl_nil (q_n (k7 _ _ ?_))))
 refine sx_sub (Sub.c 2 rfl .nil) ?_
 refine sx_retc ?_
 refine sx_ret1 Try.results79 rfl ?_
 have hd := trim_done hz hk hv (by first | exact .inl (by omega) | exact .inr (by assumption))
 rw [← hd]
 exact ⟨_, rfl, hs_s, cwl3⟩

theorem c_natSmall {w : World} {va : Value} {lva uva : Nat} {m : Nat} {d : Int} (hva : Sl w lva uva va (dg m)) (hbm : (dg m).length ≤ 1000) (hd : 1 ≤ d ∧ d ≤ 999999999) :
  Ret Try.prog 86 [va, .int .i64 d] w fun v w' => ∃ s, v = .tuple #[s, .int .i64 (((m % (d).toNat : Nat) : Int))] ∧ OwnI w' w.heap.size w'.heap.size s intT (dg (m / (d).toNat)) ∧ Chg 0 0 w w' := by
 have hva0 := hva.fit
 refine sx_enter Try.func86 rfl Try.ntmps86 (nbl rfl) ?_
 refine sx_seq fun K1 k1 => sx_region ?_
 refine av rfl rfl (av rfl rfl (wl_nil (q_n (k1 _ _ ?_))))
 refine sx_seq fun K2 k2 => sx_region ?_
 refine mv rfl rfl (sp rfl (px_len rfl Try.underlying23 hva0) ?_)
 refine sx_make (c := (dg m).length) rfl xelt23 (rfl) (rfl) (by omega) (by unfold maxLen; omega) (fun s3 ws3 fs3 cs3 ls3 => ?_)
 have ns3 := fs3.made
 have zws3 := cs3.size
 refine av rfl rfl (wl_nil (q_n (k2 _ _ ?_)))
 refine sx_seq fun K4 k4 => sx_region ?_
 refine av rfl rfl (wl_nil (q_n (k4 _ _ ?_)))
 refine sx_seq fun K5 k5 => ?_
 refine sx_seq fun K6 k6 => sx_region ?_
 refine mv rfl rfl ?_
 have f7 := hva0.ext cs3
 refine sp rfl (px_len rfl Try.underlying23 f7) ?_
 refine sp rfl (px_sub rfl rfl (by omega)) ?_
 refine av rfl rfl (wl_nil (q_n (k6 _ _ ?_)))
 refine sx_block ?_
 refine sx_loop (fun mm aa w' => ∃ (k : Nat) (os : List Int) (r : Int), Agr 38 [(0, va), (1, .int .i64 d), (6, s3), (7, .int .i64 r), (8, .int .i64 (↑k - 1))] aa ∧ Chg w.heap.size ws3.heap.size ws3 w' ∧ Own w' w.heap.size ws3.heap.size s3 intT os.length 1 (os.map (Value.int .i64)) ∧ (mm = k) ∧ (k ≤ (dg m).length) ∧ (os.length = (dg m).length) ∧ (Lm os) ∧ (0 ≤ r ∧ r < d) ∧ (vl ((dg m).drop k) = d.toNat * vl (os.drop k) + r.toNat)) (_) (fun a ha => ⟨(dg m).length, List.replicate (dg m).length 0, 0, ha.sub (Sub.c 0 rfl (.c 1 rfl (.c 6 rfl (.c 7 (look_int (t := 7) rfl (by first | omega | simp)) (.c 8 (look_int (t := 8) rfl (by first | omega | simp)) .nil))))), Chg.refl _ _ _, ns3, rfl, by omega, by simp, Lm.replicate _, by omega, by simp [vl]⟩) ?_
 rintro mm aa wl8 ⟨k, os, r, hAwl8, cwl8, hs_s3, hm, hk, hos, hlm, hr, hv⟩
 refine (show cw Try.prog 38 _ _ _ wl8 from ?_) aa hAwl8
 clear hAwl8
 have zwl8 := cwl8.size
 have am := (Lm_dg m).getD (k - 1)
 have hq := small_q hr.1 hr.2 am.1 am.2
 refine sx_seq fun K9 k9 => ?_
 refine sx_seq fun K10 k10 => sx_region ?_
 refine mv rfl rfl (sp rfl (px_ge rfl rfl) ?_)
 refine wl_nil (q_n (k10 _ _ ?_))
 refine sx_condP rfl (fun h7 => ?_) (fun h7 => ?_)
 ·
  refine sx_skip ?_
  refine q_n (k9 _ _ ?_)
  refine sx_seq fun K11 k11 => ?_
  refine sx_block ?_
  refine sx_seq fun K12 k12 => sx_region ?_
  refine mv rfl rfl (sp rfl (px_mul rfl rfl (by omega)) ?_)
  refine mv rfl rfl (mv rfl rfl ?_)
  have f13 := f7.chg cwl8 (by omega)
  refine sp rfl (px_index1 (j := (k - 1)) rfl rfl (by omega) Try.underlying23 Try.sizeOf3 f13 (by omega)) ?_
  refine sp rfl (px_load rfl (f13.load1 (at_int (by omega)) Try.isAgg3)) ?_
  refine sp rfl (px_add rfl rfl (by omega)) ?_
  refine av rfl rfl (wl_nil (q_n (k12 _ _ ?_)))
  refine sx_seq fun K14 k14 => sx_region ?_
  refine mv rfl rfl (mv rfl rfl (mv rfl rfl (mv rfl rfl (sp rfl (px_quo rfl rfl (by omega) (by omega) (by omega)) ?_))))
  refine sp rfl (px_index1 (j := (k - 1)) rfl rfl (by omega) Try.underlying23 Try.sizeOf3 hs_s3.sv (by omega)) ?_
  refine sx_storeO rfl rfl hs_s3 (by first | omega | (simp only [List.length_map]; omega)) Try.sizeOf3 rfl (fun w15 sw15 fw15 cw15 => ?_)
  have zw15 := cw15.size
  have nw15 := fw15.set
  refine wl_nil (q_n (k14 _ _ ?_))
  refine sx_sub (Sub.c 0 rfl (.c 1 rfl (.c 6 rfl (.c 7 rfl (.c 8 rfl .nil))))) ?_
  refine sx_region ?_
  refine mv rfl rfl (mv rfl rfl (sp rfl (px_rem rfl rfl (by omega) (by omega)) ?_))
  refine av rfl rfl (wl_nil ?_)
  refine q_bn (q_n (k11 _ _ ?_))
  refine sx_region ?_
  refine mv rfl rfl (sp rfl (px_sub rfl rfl (by omega)) ?_)
  refine av rfl rfl (wl_nil ?_)
  have q16 := Chg.step (l := w.heap.size) (h := ws3.heap.size) cwl8 cw15 (by omega)
  have hst := small_step (X := ((r * 1000000000) + ((dg m).getD (k - 1) 0))) (by omega) (by omega) (by omega) hr am rfl hv
  exact fun a ha => ⟨_, by omega, (k - 1), ((os).set (k - 1) (((r * 1000000000) + ((dg m).getD (k - 1) 0)) / d)), (((r * 1000000000) + ((dg m).getD (k - 1) 0)) % d), ha.sub (Sub.c 0 rfl (.c 1 rfl (.c 6 rfl (.c 7 (look_int (t := 7) rfl (by first | omega | simp)) (.c 8 (look_int (t := 8) rfl (by first | omega | simp)) .nil))))), q16, (nw15.mono (by omega) (by omega)), rfl, by omega, by simpa using hos, hlm.set _ hq.1 hq.2.1, hq.2.2, hst⟩
 refine sx_exit ?_
 refine q_e (q_e (q_bx (q_n (k5 _ _ ?_))))
 refine sx_seq fun K17 k17 => sx_region ?_
 refine mv rfl rfl (sx_call rfl rfl Try.call79 (c_trim hs_s3 (by assumption) (by first | omega | (simp only [List.length_append, List.length_set, List.length_replicate, List.length_cons, List.length_nil] at *; omega))) (fun v18 w18 p18 => ?_))
 obtain ⟨s18, rfl, os_18, c18⟩ := p18
 have zw18 := c18.size
 refine mv rfl rfl (av rfl rfl (av rfl rfl (wl_nil (q_n (k17 _ _ ?_)))))
 refine sx_retc ?_
 refine sx_ret2 Try.results86 rfl rfl ?_
 have e0 : k = 0 := by omega
 subst e0
 have he := div_end (m := m) (d := d.toNat) (v := vl os) (r := r.toNat) (by rw [List.drop_zero, List.drop_zero, vl_dg] at hv; exact hv) (show r.toNat < d.toNat by omega)
 have hr2 := os_18
 rw [he.1] at hr2
 have er : r = ((m % d.toNat : Nat) : Int) := by omega
 have q19 := Chg.step (l := 0) (h := 0) (Chg.zero (l := 0) (h := 0) cs3) cwl8 (by omega)
 have q20 := Chg.step (l := 0) (h := 0) q19 c18 (by omega)
 exact ⟨_, by rw [er], hr2.mono (by omega) (by omega), q20⟩

theorem c_natOf {w : World} {n : Int} (hn : 0 ≤ n ∧ n ≤ 18446744073709551615) :
  Ret Try.prog 77 [.int .u64 n] w fun v w' => ∃ s, v = s ∧ OwnI w' w.heap.size w'.heap.size s intT (dg (n).toNat) ∧ Chg 0 0 w w' := by
 have l0 := len_u64 (n := n) (by omega)
 refine sx_enter Try.func77 rfl Try.ntmps77 (nbl rfl) ?_
 refine sx_seq fun K1 k1 => sx_region ?_
 refine av rfl rfl (wl_nil (q_n (k1 _ _ ?_)))
 refine sx_seq fun K2 k2 => sx_region ?_
 refine sx_lit0 rfl xelt23 (fun s3 ws3 ss3 fs3 cs3 => ?_)
 have zws3 := cs3.size
 refine av rfl rfl (wl_nil (q_n (k2 _ _ ?_)))
 refine sx_seq fun K4 k4 => ?_
 refine sx_block ?_
 refine sx_loop (fun mm aa w' => ∃ (s : Value) (os : List Int) (m : Int), Agr 16 [(0, .int .u64 m), (3, s)] aa ∧ Chg w.heap.size ws3.heap.size ws3 w' ∧ Own w' w.heap.size w'.heap.size s intT os.length 1 (os.map (Value.int .i64)) ∧ (mm = m.toNat) ∧ (Lm os) ∧ (0 ≤ m ∧ m ≤ n) ∧ (vl os + Bs ^ os.length * m.toNat = n.toNat) ∧ (os.length + (dg m.toNat).length = (dg n.toNat).length) ∧ (os.length = 0 ∨ Bs ^ (os.length - 1) ≤ n.toNat)) (_) (fun a ha => ⟨s3, [], n, ha.sub (Sub.c 0 rfl (.c 3 rfl .nil)), Chg.refl _ _ _, (fs3.mono (by omega) (by omega)), rfl, Lm.nil, by omega, by simp [vl], by simp, .inl rfl⟩) ?_
 rintro mm aa wl5 ⟨s, os, m, hAwl5, cwl5, hs_s, hm, hlm, hb, hv, hln, hl⟩
 refine (show cw Try.prog 16 _ _ _ wl5 from ?_) aa hAwl5
 clear hAwl5
 have zwl5 := cwl5.size
 refine sx_seq fun K6 k6 => ?_
 refine sx_seq fun K7 k7 => sx_region ?_
 refine mv rfl rfl (sp rfl (px_gt rfl rfl) ?_)
 refine wl_nil (q_n (k7 _ _ ?_))
 refine sx_condP rfl (fun h47 => ?_) (fun h47 => ?_)
 ·
  refine sx_skip ?_
  refine q_n (k6 _ _ ?_)
  refine sx_block ?_
  refine sx_seq fun K8 k8 => sx_region ?_
  refine mv rfl rfl (mv rfl rfl (sp rfl (px_remU rfl rfl (by omega) (by omega)) ?_))
  refine sp rfl (px_convI Try.underlying88 Try.underlying3 rfl (by omega)) ?_
  refine sx_lit1 rfl xelt23 rfl rfl (fun s9 ws9 ss9 fs9 cs9 => ?_)
  have ns9 := Own.norm (f := (Value.int .i64)) (zs := [m % 1000000000]) fs9
  have zws9 := cs9.size
  have f11 := hs_s.ext cs9
  refine sx_append rfl xelt23 rfl rfl f11 ns9.sv one_int (by omega) (by simp only [List.length_cons, List.length_nil]; omega) (by unfold maxLen; simp only [List.length_cons, List.length_nil]; omega) (fun a10 w10 fw10 cw10 => ?_)
  have nw10 := Own.app (f := (Value.int .i64)) (a := os) (b := [m % 1000000000]) fw10
  have zw10 := cw10.size
  refine av rfl rfl (wl_nil (q_n (k8 _ _ ?_)))
  refine sx_region ?_
  refine mv rfl rfl (sp rfl (px_quoU rfl rfl (by omega) (by omega) (by omega)) ?_)
  refine av rfl rfl (wl_nil ?_)
  have q12 := Chg.step (l := w.heap.size) (h := ws3.heap.size) cwl5 cs9 (by omega)
  have q13 := Chg.step (l := w.heap.size) (h := ws3.heap.size) q12 cw10 (by omega)
  have hmd := mod_bd (s := m) (by omega)
  have hm0 : m / 1000000000 < m := by omega
  exact q_bn (fun a ha => ⟨_, by omega, a10, (os ++ ([m % 1000000000])), (m / 1000000000), ha.sub (Sub.c 0 rfl (.c 3 rfl .nil)), q13, (nw10.mono (by omega) (by omega)), rfl, hlm.append (Lm.single hmd.1 hmd.2), by omega, of_stepI (by omega) hv, by have h9 := of_ln (m := m) (by omega); simp only [List.length_append, List.length_singleton]; omega, .inr (of_len (by omega) hv)⟩)
 refine sx_exit ?_
 refine q_e (q_e (q_bx (q_n (k4 _ _ ?_))))
 refine sx_seq fun K14 k14 => sx_region ?_
 refine mv rfl rfl (av rfl rfl (wl_nil (q_n (k14 _ _ ?_))))
 refine sx_retc ?_
 refine sx_ret1 Try.results77 rfl ?_
 have hm0 : m = 0 := by omega
 subst hm0
 have hd : os = dg n.toNat := dg_of hlm (by simpa using hv) hl
 subst hd
 have q15 := Chg.step (l := 0) (h := 0) (Chg.zero (l := 0) (h := 0) cs3) cwl5 (by omega)
 exact ⟨_, rfl, (Own.mono hs_s (by omega) (by omega)), q15⟩

theorem c_iNatOf {w : World} {n : Int} (hn : 0 ≤ n ∧ n ≤ 9223372036854775807) :
  Ret Try.prog 87 [.int .i64 n] w fun v w' => ∃ s, v = s ∧ OwnI w' w.heap.size w'.heap.size s intT (dg (n).toNat) ∧ Chg 0 0 w w' := by
 refine sx_enter Try.func87 rfl Try.ntmps87 (nbl rfl) ?_
 refine sx_seq fun K1 k1 => sx_region ?_
 refine av rfl rfl (wl_nil (q_n (k1 _ _ ?_)))
 refine sx_seq fun K2 k2 => ?_
 refine sx_seq fun K3 k3 => sx_region ?_
 refine mv rfl rfl (sp rfl (px_lt rfl rfl) ?_)
 refine wl_nil (q_n (k3 _ _ ?_))
 have h56 : ¬ ((n : Int) < 0) := by omega
 refine sx_condPF rfl h56 ?_
 refine sx_skip ?_
 refine q_n (k2 _ _ ?_)
 refine sx_seq fun K4 k4 => sx_region ?_
 refine mv rfl rfl (sp rfl (px_convU Try.underlying3 Try.underlying88 rfl (by omega)) ?_)
 refine sx_call rfl rfl Try.call77 (c_natOf (by omega)) (fun v5 w5 p5 => ?_)
 obtain ⟨s5, rfl, os_5, c5⟩ := p5
 have zw5 := c5.size
 refine av rfl rfl (wl_nil (q_n (k4 _ _ ?_)))
 refine sx_retc ?_
 refine sx_ret1 Try.results87 rfl ?_
 exact ⟨_, rfl, (Own.mono os_5 (by omega) (by omega)), c5⟩

theorem c_natMul {w : World} {va : Value} {lva uva : Nat} {m : Nat} {vb : Value} {lvb uvb : Nat} {n : Nat} (hva : Sl w lva uva va (dg m)) (hvb : Sl w lvb uvb vb (dg n)) (hbm : (dg m).length ≤ 1000) (hbn : (dg n).length ≤ 1000) :
  Ret Try.prog 48 [va, vb] w fun v w' => ∃ s, v = s ∧ OwnI w' w.heap.size w'.heap.size s intT (dg (m * n)) ∧ Chg 0 0 w w' := by
 have hva0 := hva.fit
 have hvb0 := hvb.fit
 refine sx_enter Try.func48 rfl Try.ntmps48 (nbl rfl) ?_
 refine sx_seq fun K1 k1 => sx_region ?_
 refine av rfl rfl (wl_nil (q_n (k1 _ _ ?_)))
 refine sx_seq fun K2 k2 => sx_region ?_
 refine mv rfl rfl (sp rfl (px_len rfl Try.underlying23 hva0) ?_)
 refine mv rfl rfl (sp rfl (px_len rfl Try.underlying23 hvb0) ?_)
 refine sp rfl (px_add rfl rfl (by omega)) ?_
 refine sp rfl (px_add rfl rfl (by omega)) ?_
 refine sx_make (c := (dg m).length + (dg n).length + 1) rfl xelt23 (look_int rfl (by omega)) (look_int rfl (by omega)) (by omega) (by unfold maxLen; omega) (fun s3 ws3 fs3 cs3 ls3 => ?_)
 have ns3 := fs3.made
 have zws3 := cs3.size
 refine av rfl rfl (wl_nil (q_n (k2 _ _ ?_)))
 refine sx_seq fun K4 k4 => ?_
 refine sx_seq fun K5 k5 => sx_region ?_
 refine mv rfl rfl ?_
 have f6 := hva0.ext cs3
 refine sp rfl (px_len rfl Try.underlying23 f6) ?_
 refine mv rfl rfl (wl_nil (q_n (k5 _ _ ?_)))
 refine sx_block ?_
 refine sx_loop (fun mm aa w' => ∃ (k : Nat) (os : List Int), Agr 79 [(1, vb), (5, s3), (19, va), (20, .int .i64 (↑(dg m).length)), (21, .int .i64 ↑k)] aa ∧ Chg w.heap.size ws3.heap.size ws3 w' ∧ Own w' w.heap.size ws3.heap.size s3 intT os.length 1 (os.map (Value.int .i64)) ∧ (mm = (dg m).length - k) ∧ (k ≤ (dg m).length) ∧ (os.length = (dg m).length + (dg n).length + 1) ∧ (Lm os) ∧ (∀ i, k + (dg n).length ≤ i → os.getD i 0 = 0) ∧ (vl os = vl ((dg m).take k) * n)) (_) (fun a ha => ⟨0, List.replicate ((dg m).length + (dg n).length + 1) 0, ha.sub (Sub.c 1 rfl (.c 5 rfl (.c 19 rfl (.c 20 (look_int (t := 20) rfl (by first | omega | simp)) (.c 21 (look_int (t := 21) rfl (by first | omega | simp)) .nil))))), Chg.refl _ _ _, (ns3.mono (by omega) (by omega)), rfl, by omega, by simp, Lm.replicate _, fun i _ => zero_rep _ i (Nat.zero_le _), by rw [vl_replicate, List.take_zero]; simp [vl]⟩) ?_
 rintro mm aa wl7 ⟨k, os, hAwl7, cwl7, hs_s3, hm, hk, hos, hlm, hz, hv⟩
 refine (show cw Try.prog 79 _ _ _ wl7 from ?_) aa hAwl7
 clear hAwl7
 have zwl7 := cwl7.size
 have am := (Lm_dg m).getD k
 refine sx_seq fun K8 k8 => sx_region ?_
 refine sp rfl (px_lt rfl rfl) ?_
 refine wl_nil (q_n (k8 _ _ ?_))
 refine sx_seq fun K9 k9 => ?_
 refine sx_condP rfl (fun h140 => ?_) (fun h140 => ?_)
 ·
  refine sx_skip ?_
  refine q_n (k9 _ _ ?_)
  refine sx_seq fun K10 k10 => ?_
  refine sx_block ?_
  refine sx_seq fun K11 k11 => sx_region ?_
  refine mv rfl rfl ?_
  have f12 := f6.chg cwl7 (by omega)
  refine sp rfl (px_index1 (j := k) rfl rfl (by omega) Try.underlying23 Try.sizeOf3 f12 (by first | omega | (simp only [List.length_set]; omega))) ?_
  refine sp rfl (px_load rfl (f12.load1 (at_int (by omega)) Try.isAgg3)) ?_
  refine av rfl rfl (av rfl rfl (wl_nil (q_n (k11 _ _ ?_))))
  refine sx_seq fun K13 k13 => sx_region ?_
  refine av rfl rfl (wl_nil (q_n (k13 _ _ ?_)))
  refine sx_seq fun K14 k14 => ?_
  refine sx_seq fun K15 k15 => sx_region ?_
  refine mv rfl rfl ?_
  have f16 := hvb0.ext cs3
  have f17 := f16.chg cwl7 (by omega)
  refine sp rfl (px_len rfl Try.underlying23 f17) ?_
  refine mv rfl rfl (wl_nil (q_n (k15 _ _ ?_)))
  refine sx_sub (Sub.c 1 rfl (.c 5 rfl (.c 6 rfl (.c 7 rfl (.c 8 rfl (.c 19 rfl (.c 20 rfl (.c 21 rfl (.c 26 rfl (.c 27 rfl (.c 28 rfl .nil))))))))))) ?_
  refine sx_block ?_
  refine sx_loop (fun mm aa w' => ∃ (j : Nat) (o2 : List Int) (c : Int), Agr 79 [(1, vb), (5, s3), (6, .int .i64 ↑k), (7, .int .i64 ((dg m).getD k 0)), (8, .int .i64 c), (19, va), (20, .int .i64 (↑(dg m).length)), (21, .int .i64 ↑k), (26, vb), (27, .int .i64 (↑(dg n).length)), (28, .int .i64 ↑j)] aa ∧ Chg w.heap.size ws3.heap.size wl7 w' ∧ Own w' w.heap.size ws3.heap.size s3 intT o2.length 1 (o2.map (Value.int .i64)) ∧ (mm = (dg n).length - j) ∧ (j ≤ (dg n).length) ∧ (o2.length = (dg m).length + (dg n).length + 1) ∧ (Lm o2) ∧ (∀ i, k + (dg n).length ≤ i → o2.getD i 0 = 0) ∧ (0 ≤ c ∧ c < 1000000000) ∧ (vl o2 + Bs ^ (k + j) * c.toNat = vl os + Bs ^ k * (((dg m).getD k 0).toNat * vl ((dg n).take j)))) (_) (fun a ha => ⟨0, os, 0, ha.sub (Sub.c 1 rfl (.c 5 rfl (.c 6 rfl (.c 7 rfl (.c 8 (look_int (t := 8) rfl (by first | omega | simp)) (.c 19 rfl (.c 20 rfl (.c 21 rfl (.c 26 rfl (.c 27 (look_int (t := 27) rfl (by first | omega | simp)) (.c 28 (look_int (t := 28) rfl (by first | omega | simp)) .nil))))))))))), Chg.refl _ _ _, hs_s3, rfl, by omega, hos, hlm, hz, by omega, by simp [vl]⟩) ?_
  rintro mm aa wl18 ⟨j, o2, c, hAwl18, cwl18, hs_s3, hm, hj, hos2, hlm2, hz2, hc, hv2⟩
  refine (show cw Try.prog 79 _ _ _ wl18 from ?_) aa hAwl18
  clear hAwl18
  have zwl18 := cwl18.size
  have bn := (Lm_dg n).getD j
  have on := hlm2.getD (k + j)
  have hxy := mul_limb am.1 am.2 bn.1 bn.2
  refine sx_seq fun K19 k19 => sx_region ?_
  refine sp rfl (px_lt rfl rfl) ?_
  refine wl_nil (q_n (k19 _ _ ?_))
  refine sx_seq fun K20 k20 => ?_
  refine sx_condP rfl (fun h142 => ?_) (fun h142 => ?_)
  ·
   refine sx_skip ?_
   refine q_n (k20 _ _ ?_)
   refine sx_seq fun K21 k21 => ?_
   refine sx_block ?_
   refine sx_seq fun K22 k22 => sx_region ?_
   refine mv rfl rfl ?_
   have f23 := f17.chg cwl18 (by omega)
   refine sp rfl (px_index1 (j := j) rfl rfl (by omega) Try.underlying23 Try.sizeOf3 f23 (by first | omega | (simp only [List.length_set]; omega))) ?_
   refine sp rfl (px_load rfl (f23.load1 (at_int (by omega)) Try.isAgg3)) ?_
   refine av rfl rfl (av rfl rfl (wl_nil (q_n (k22 _ _ ?_))))
   refine sx_sub (Sub.c 1 rfl (.c 5 rfl (.c 6 rfl (.c 7 rfl (.c 8 rfl (.c 9 rfl (.c 10 rfl (.c 19 rfl (.c 20 rfl (.c 21 rfl (.c 26 rfl (.c 27 rfl (.c 28 rfl .nil))))))))))))) ?_
   refine sx_seq fun K24 k24 => sx_region ?_
   refine mv rfl rfl (mv rfl rfl (mv rfl rfl (mv rfl rfl (sp rfl (px_add rfl rfl (by omega)) ?_))))
   refine sp rfl (px_index1 (j := (k + j)) rfl rfl (by omega) Try.underlying23 Try.sizeOf3 hs_s3.sv (by first | omega | (simp only [List.length_set]; omega))) ?_
   refine sp rfl (px_load rfl (hs_s3.sv.load1 (at_int (by omega)) Try.isAgg3)) ?_
   refine mv rfl rfl (mv rfl rfl (sp rfl (px_mul rfl rfl (by omega)) ?_))
   refine sp rfl (px_add rfl rfl (by omega)) ?_
   refine sp rfl (px_add rfl rfl (by omega)) ?_
   refine av rfl rfl (wl_nil (q_n (k24 _ _ ?_)))
   refine sx_sub (Sub.c 1 rfl (.c 5 rfl (.c 6 rfl (.c 7 rfl (.c 8 rfl (.c 9 rfl (.c 19 rfl (.c 20 rfl (.c 21 rfl (.c 26 rfl (.c 27 rfl (.c 28 rfl .nil)))))))))))) ?_
   refine sx_seq fun K25 k25 => sx_region ?_
   refine mv rfl rfl (mv rfl rfl (mv rfl rfl (sp rfl (px_add rfl rfl (by omega)) ?_)))
   refine mv rfl rfl (sp rfl (px_rem rfl rfl (by omega) (by omega)) ?_)
   refine sp rfl (px_index1 (j := (k + j)) rfl rfl (by omega) Try.underlying23 Try.sizeOf3 hs_s3.sv (by first | omega | (simp only [List.length_set]; omega))) ?_
   refine sx_storeO rfl rfl hs_s3 (by first | omega | (simp only [List.length_map]; omega)) Try.sizeOf3 rfl (fun w26 sw26 fw26 cw26 => ?_)
   have zw26 := cw26.size
   have nw26 := fw26.set
   refine wl_nil (q_n (k25 _ _ ?_))
   refine sx_sub (Sub.c 1 rfl (.c 5 rfl (.c 6 rfl (.c 7 rfl (.c 8 rfl (.c 19 rfl (.c 20 rfl (.c 21 rfl (.c 26 rfl (.c 27 rfl (.c 28 rfl .nil))))))))))) ?_
   refine sx_region ?_
   refine mv rfl rfl (sp rfl (px_quo rfl rfl (by omega) (by omega) (by omega)) ?_)
   refine av rfl rfl (wl_nil ?_)
   refine q_bn (q_n (k21 _ _ ?_))
   refine sx_region ?_
   refine sp rfl (px_add rfl rfl (by omega)) ?_
   refine mv rfl rfl (wl_nil ?_)
   have q27 := Chg.step (l := w.heap.size) (h := ws3.heap.size) cwl18 cw26 (by omega)
   have hs : (c + (((o2).getD (k + j) 0) + (((dg m).getD k 0) * ((dg n).getD j 0)))) = c + (o2.getD (k + j) 0 + (dg m).getD k 0 * (dg n).getD j 0) := by omega
   have hm2 := mul_step (V := vl os) hc.1 am.1 on.1 bn.1 (by omega) (by omega) hs hv2
   exact fun a ha => ⟨_, by omega, (j + 1), ((o2).set (k + j) ((c + (((o2).getD (k + j) 0) + (((dg m).getD k 0) * ((dg n).getD j 0)))) % 1000000000)), ((c + (((o2).getD (k + j) 0) + (((dg m).getD k 0) * ((dg n).getD j 0)))) / 1000000000), ha.sub (Sub.c 1 rfl (.c 5 rfl (.c 6 rfl (.c 7 rfl (.c 8 (look_int (t := 8) rfl (by first | omega | simp)) (.c 19 rfl (.c 20 rfl (.c 21 rfl (.c 26 rfl (.c 27 rfl (.c 28 (look_int (t := 28) rfl (by first | omega | simp)) .nil))))))))))), q27, (nw26.mono (by omega) (by omega)), rfl, by omega, by simpa using hos2, hlm2.set _ (by omega) (by omega), zero_set' hz2 (by omega), by omega, hm2⟩
  refine sx_exit ?_
  refine q_e (q_e (q_bx (q_n (k14 _ _ ?_))))
  refine sx_seq fun K28 k28 => sx_region ?_
  refine mv rfl rfl (mv rfl rfl ?_)
  have f29 := f17.chg cwl18 (by omega)
  refine sp rfl (px_len rfl Try.underlying23 f29) ?_
  refine sp rfl (px_add rfl rfl (by omega)) ?_
  refine av rfl rfl (wl_nil (q_n (k28 _ _ ?_)))
  refine sx_sub (Sub.c 1 rfl (.c 5 rfl (.c 8 rfl (.c 11 rfl (.c 19 rfl (.c 20 rfl (.c 21 rfl .nil))))))) ?_
  refine sx_block ?_
  have ej : j = (dg n).length := by omega
  rw [ej, List.take_length, vl_dg] at hv2
  refine sx_loop (fun mm aa w' => ∃ (q : Nat) (o3 : List Int) (e : Int), Agr 79 [(1, vb), (5, s3), (8, .int .i64 e), (11, .int .i64 ↑q), (19, va), (20, .int .i64 (↑(dg m).length)), (21, .int .i64 ↑k)] aa ∧ Chg w.heap.size ws3.heap.size wl18 w' ∧ Own w' w.heap.size ws3.heap.size s3 intT o3.length 1 (o3.map (Value.int .i64)) ∧ (mm = k + (dg n).length + 1 - q) ∧ (o3.length = (dg m).length + (dg n).length + 1) ∧ (Lm o3) ∧ (∀ i, q ≤ i → o3.getD i 0 = 0) ∧ (0 ≤ e ∧ e < 1000000000) ∧ (q = k + (dg n).length ∨ (q = k + (dg n).length + 1 ∧ e = 0)) ∧ (vl o3 + Bs ^ q * e.toNat = vl os + Bs ^ k * (((dg m).getD k 0).toNat * n))) (_) (fun a ha => ⟨(k + (dg n).length), o2, c, ha.sub (Sub.c 1 rfl (.c 5 rfl (.c 8 (look_int (t := 8) rfl (by first | omega | simp)) (.c 11 (look_int (t := 11) rfl (by first | omega | simp)) (.c 19 rfl (.c 20 rfl (.c 21 rfl .nil))))))), Chg.refl _ _ _, hs_s3, rfl, hos2, hlm2, hz2, by omega, .inl rfl, hv2⟩) ?_
  rintro mm aa wl30 ⟨q, o3, e, hAwl30, cwl30, hs_s3, hm, hos3, hlm3, hz3, he, hq, hv3⟩
  refine (show cw Try.prog 79 _ _ _ wl30 from ?_) aa hAwl30
  clear hAwl30
  have zwl30 := cwl30.size
  have on := hlm3.getD q
  have oz := hz3 q (Nat.le_refl _)
  refine sx_seq fun K31 k31 => ?_
  refine sx_seq fun K32 k32 => sx_region ?_
  refine mv rfl rfl (sp rfl (px_gt rfl rfl) ?_)
  refine wl_nil (q_n (k32 _ _ ?_))
  refine sx_condP rfl (fun h147 => ?_) (fun h147 => ?_)
  ·
   refine sx_skip ?_
   refine q_n (k31 _ _ ?_)
   refine sx_seq fun K33 k33 => ?_
   refine sx_block ?_
   refine sx_seq fun K34 k34 => sx_region ?_
   refine mv rfl rfl (mv rfl rfl (mv rfl rfl (sp rfl (px_index1 (j := q) rfl rfl (by omega) Try.underlying23 Try.sizeOf3 hs_s3.sv (by first | omega | (simp only [List.length_set]; omega))) ?_)))
   refine sp rfl (px_load rfl (hs_s3.sv.load1 (at_int (by omega)) Try.isAgg3)) ?_
   refine sp rfl (px_add rfl rfl (by omega)) ?_
   refine av rfl rfl (wl_nil (q_n (k34 _ _ ?_)))
   refine sx_sub (Sub.c 1 rfl (.c 5 rfl (.c 8 rfl (.c 11 rfl (.c 19 rfl (.c 20 rfl (.c 21 rfl .nil))))))) ?_
   refine sx_seq fun K35 k35 => sx_region ?_
   refine mv rfl rfl (mv rfl rfl (mv rfl rfl (sp rfl (px_rem rfl rfl (by omega) (by omega)) ?_)))
   refine sp rfl (px_index1 (j := q) rfl rfl (by omega) Try.underlying23 Try.sizeOf3 hs_s3.sv (by first | omega | (simp only [List.length_set]; omega))) ?_
   refine sx_storeO rfl rfl hs_s3 (by first | omega | (simp only [List.length_map]; omega)) Try.sizeOf3 rfl (fun w36 sw36 fw36 cw36 => ?_)
   have zw36 := cw36.size
   have nw36 := fw36.set
   refine wl_nil (q_n (k35 _ _ ?_))
   refine sx_region ?_
   refine mv rfl rfl (sp rfl (px_quo rfl rfl (by omega) (by omega) (by omega)) ?_)
   refine av rfl rfl (wl_nil ?_)
   refine q_bn (q_n (k33 _ _ ?_))
   refine sx_region ?_
   refine mv rfl rfl (sp rfl (px_add rfl rfl (by omega)) ?_)
   refine av rfl rfl (wl_nil ?_)
   have q37 := Chg.step (l := w.heap.size) (h := ws3.heap.size) cwl30 cw36 (by omega)
   have hs : (e + ((o3).getD q 0)) = e + o3.getD q 0 := by omega
   have hm3 := carry_gen (by omega) he.1 on.1 hs hv3
   exact fun a ha => ⟨_, by omega, (q + 1), ((o3).set q ((e + ((o3).getD q 0)) % 1000000000)), ((e + ((o3).getD q 0)) / 1000000000), ha.sub (Sub.c 1 rfl (.c 5 rfl (.c 8 (look_int (t := 8) rfl (by first | omega | simp)) (.c 11 (look_int (t := 11) rfl (by first | omega | simp)) (.c 19 rfl (.c 20 rfl (.c 21 rfl .nil))))))), q37, (nw36.mono (by omega) (by omega)), rfl, by simpa using hos3, hlm3.set _ (by omega) (by omega), zero_set hz3 (by omega), by omega, .inr (by omega), hm3⟩
  refine sx_exit ?_
  refine q_e (q_e (q_bx (q_bn (q_n (k10 _ _ ?_)))))
  have e0 : e = 0 := by omega
  subst e0
  have hosR := hos3
  have hlmR := hlm3
  have hzR : ∀ i, k + (dg n).length + 1 ≤ i → o3.getD i 0 = 0 := fun i hi => hz3 i (by omega)
  have hvR : vl o3 = vl os + Bs ^ k * (((dg m).getD k 0).toNat * n) := by simpa using hv3
  refine sx_region ?_
  refine sp rfl (px_add rfl rfl (by omega)) ?_
  refine mv rfl rfl (wl_nil ?_)
  have q38 := Chg.step (l := w.heap.size) (h := ws3.heap.size) cwl7 cwl18 (by omega)
  have q39 := Chg.step (l := w.heap.size) (h := ws3.heap.size) q38 cwl30 (by omega)
  have hrow := mul_row (P := Bs ^ k) (a := ((dg m).getD k 0).toNat) hv
  rw [← vl_take_succ'] at hrow
  exact fun a ha => ⟨_, by omega, (k + 1), o3, ha.sub (Sub.c 1 rfl (.c 5 rfl (.c 19 rfl (.c 20 rfl (.c 21 (look_int (t := 21) rfl (by first | omega | simp)) .nil))))), q39, (hs_s3.mono (by omega) (by omega)), rfl, by omega, by simpa using hosR, hlmR, fun i hi => hzR i (by omega), hvR.trans hrow⟩
 refine sx_exit ?_
 refine q_e (q_e (q_bx (q_n (k4 _ _ ?_))))
 refine sx_seq fun K40 k40 => ?_
 have ek : k = (dg m).length := by omega
 rw [ek, List.take_length, vl_dg] at hv
 have hzz := hlm
 refine sx_region ?_
 refine mv rfl rfl (sx_call rfl rfl Try.call79 (c_trim hs_s3 (by assumption) (by first | omega | (simp only [List.length_append, List.length_set, List.length_replicate, List.length_cons, List.length_nil] at *; omega))) (fun v41 w41 p41 => ?_))
 obtain ⟨s41, rfl, os_41, c41⟩ := p41
 have zw41 := c41.size
 refine av rfl rfl (wl_nil (q_n (k40 _ _ ?_)))
 refine sx_retc ?_
 refine sx_ret1 Try.results48 rfl ?_
 have hr := os_41
 rw [hv] at hr
 have q42 := Chg.step (l := 0) (h := 0) (Chg.zero (l := 0) (h := 0) cs3) cwl7 (by omega)
 have q43 := Chg.step (l := 0) (h := 0) q42 c41 (by omega)
 exact ⟨_, rfl, hr.mono (by omega) (by omega), q43⟩

theorem c_natMulS {w : World} {va : Value} {lva uva : Nat} {m : Nat} {vb : Value} {lvb uvb : Nat} {ys : List Int} (hva : Sl w lva uva va (dg m)) (hvb : Sl w lvb uvb vb (ys)) (hbm : (dg m).length ≤ 1000) (hbn : ys.length ≤ 1000) (hy : ys = dg (vl ys)) :
  Ret Try.prog 48 [va, vb] w fun v w' => ∃ s, v = s ∧ OwnI w' w.heap.size w'.heap.size s intT (dg (m * vl ys)) ∧ Chg 0 0 w w' := by
 have hl : (dg (vl ys)).length ≤ 1000 := by rw [← hy]; exact hbn
 rw [hy] at hvb; exact c_natMul hva hvb hbm hl

theorem c_subTimes {w : World} {va : Value} {lva uva : Nat} {preva sufva : List Value} {zs : List Int} {vb : Value} {lvb uvb : Nat} {ys : List Int} {q : Int} (hva : Win w lva uva va intT preva sufva zs) (hvb : Sl w lvb uvb vb (ys)) (hd : uvb ≤ lva ∨ uva ≤ lvb) (hzl : zs.length = ys.length + 1) (hz : Lm zs) (hy : Lm ys) (hq : 0 ≤ q ∧ q ≤ 999999999) (h63 : zs.length ≤ 1000) :
  Ret Try.prog 93 [va, vb, .int .i64 q] w fun v w' => ∃ os, v = .bool (decide ((os).getD (ys).length 0 < 0)) ∧ Win w' lva uva va intT preva sufva (os) ∧ ((os).length = (zs).length ∧ Lm ((os).take (ys).length) ∧ ((vl ((os).take (ys).length) : Nat) : Int) + ((Bs ^ (ys).length : Nat) : Int) * (os).getD (ys).length 0 = ((vl ((zs).take (ys).length) : Nat) : Int) + ((Bs ^ (ys).length : Nat) : Int) * (zs).getD (ys).length 0 - q * ((vl ys : Nat) : Int)) ∧ Chg lva uva w w' := by
 refine sx_enter Try.func93 rfl Try.ntmps93 (nbl rfl) ?_
 refine sx_seq fun K1 k1 => sx_region ?_
 refine av rfl rfl (wl_nil (q_n (k1 _ _ ?_)))
 refine sx_seq fun K2 k2 => sx_region ?_
 refine av rfl rfl (wl_nil (q_n (k2 _ _ ?_)))
 refine sx_seq fun K3 k3 => ?_
 refine sx_seq fun K4 k4 => sx_region ?_
 refine mv rfl rfl (sp rfl (px_len rfl Try.underlying23 hvb) ?_)
 refine mv rfl rfl (wl_nil (q_n (k4 _ _ ?_)))
 refine sx_block ?_
 refine sx_loop (fun mm aa w' => ∃ (k : Nat) (os : List Int) (c : Int), Agr 58 [(0, va), (1, vb), (2, .int .i64 q), (7, .int .i64 c), (11, vb), (12, .int .i64 ↑ys.length), (13, .int .i64 ↑k)] aa ∧ Chg lva uva w w' ∧ Win w' lva uva va intT preva sufva (os) ∧ (mm = ys.length - k) ∧ (k ≤ ys.length) ∧ (os.length = zs.length) ∧ (Lm (os.take k)) ∧ (os.drop k = zs.drop k) ∧ (0 ≤ c ∧ c < 1000000000) ∧ (vl (zs.take k) + Bs ^ k * c.toNat = vl (os.take k) + q.toNat * vl (ys.take k))) (_) (fun a ha => ⟨0, zs, 0, ha.sub (Sub.c 0 rfl (.c 1 rfl (.c 2 rfl (.c 7 (look_int (t := 7) rfl (by first | omega | simp)) (.c 11 rfl (.c 12 (look_int (t := 12) rfl (by first | omega | simp)) (.c 13 (look_int (t := 13) rfl (by first | omega | simp)) .nil))))))), Chg.refl _ _ _, hva, rfl, by omega, rfl, Lm.nil, rfl, by omega, by simp [vl]⟩) ?_
 rintro mm aa wl5 ⟨k, os, c, hAwl5, cwl5, hs_va, hm, hk, ho, hlm, hdr, hc, hv⟩
 refine (show cw Try.prog 58 _ _ _ wl5 from ?_) aa hAwl5
 clear hAwl5
 have zwl5 := cwl5.size
 have un := hz.getD k
 have yn := hy.getD k
 have hxy := mul_limb yn.1 yn.2 hq.1 (by omega)
 have ue := getD_drop hdr
 refine sx_seq fun K6 k6 => sx_region ?_
 refine sp rfl (px_lt rfl rfl) ?_
 refine wl_nil (q_n (k6 _ _ ?_))
 refine sx_seq fun K7 k7 => ?_
 refine sx_condP rfl (fun h57 => ?_) (fun h57 => ?_)
 ·
  refine sx_skip ?_
  refine q_n (k7 _ _ ?_)
  refine sx_seq fun K8 k8 => ?_
  refine sx_block ?_
  refine sx_seq fun K9 k9 => sx_region ?_
  refine mv rfl rfl ?_
  have f10 := hvb.chg cwl5 (by omega)
  refine sp rfl (px_index1 (j := k) rfl rfl (by omega) Try.underlying23 Try.sizeOf3 f10 (by first | omega | (simp only [List.length_set]; omega))) ?_
  refine sp rfl (px_load rfl (f10.load1 (at_int (by first | omega | (simp only [List.length_set]; omega))) Try.isAgg3)) ?_
  refine av rfl rfl (av rfl rfl (wl_nil (q_n (k9 _ _ ?_))))
  refine sx_seq fun K11 k11 => sx_region ?_
  refine mv rfl rfl (mv rfl rfl (sp rfl (px_index1 (j := k) rfl rfl (by omega) Try.underlying23 Try.sizeOf3 hs_va.sv (by first | omega | (simp only [List.length_set]; omega))) ?_))
  refine sp rfl (px_load rfl (hs_va.sv.load1 (at_int (by first | omega | (simp only [List.length_set]; omega))) Try.isAgg3)) ?_
  refine mv rfl rfl (mv rfl rfl (sp rfl (px_mul rfl rfl (by omega)) ?_))
  refine sp rfl (px_sub rfl rfl (by omega)) ?_
  refine mv rfl rfl (sp rfl (px_sub rfl rfl (by omega)) ?_)
  refine av rfl rfl (wl_nil (q_n (k11 _ _ ?_)))
  refine sx_sub (Sub.c 0 rfl (.c 1 rfl (.c 2 rfl (.c 7 rfl (.c 8 rfl (.c 10 rfl (.c 11 rfl (.c 12 rfl (.c 13 rfl .nil))))))))) ?_
  refine sx_seq fun K12 k12 => sx_region ?_
  refine av rfl rfl (wl_nil (q_n (k12 _ _ ?_)))
  refine sx_seq fun K13 k13 => ?_
  refine sx_seq fun K14 k14 => sx_region ?_
  refine mv rfl rfl (sp rfl (px_lt rfl rfl) ?_)
  refine wl_nil (q_n (k14 _ _ ?_))
  refine sx_condP rfl (fun h60 => ?_) (fun h60 => ?_)
  ·
   refine sx_seq fun K15 k15 => sx_region ?_
   refine mv rfl rfl (sp rfl (px_neg rfl (by omega)) ?_)
   refine sp rfl (px_add rfl rfl (by omega)) ?_
   refine sp rfl (px_sub rfl rfl (by omega)) ?_
   refine sp rfl (px_quo rfl rfl (by omega) (by omega) (by omega)) ?_
   refine av rfl rfl (wl_nil (q_n (k15 _ _ ?_)))
   refine sx_sub (Sub.c 0 rfl (.c 1 rfl (.c 2 rfl (.c 7 rfl (.c 8 rfl (.c 10 rfl (.c 11 rfl (.c 12 rfl (.c 13 rfl .nil))))))))) ?_
   refine sx_region ?_
   refine mv rfl rfl (mv rfl rfl (sp rfl (px_mul rfl rfl (by omega)) ?_))
   refine sp rfl (px_add rfl rfl (by omega)) ?_
   refine av rfl rfl (wl_nil (q_n (k13 _ _ ?_)))
   refine sx_region ?_
   refine mv rfl rfl (mv rfl rfl (mv rfl rfl (sp rfl (px_index1 (j := k) rfl rfl (by omega) Try.underlying23 Try.sizeOf3 hs_va.sv (by first | omega | (simp only [List.length_set]; omega))) ?_)))
   refine sx_storeW rfl rfl hs_va (by first | omega | (simp only [List.length_set]; omega)) Try.sizeOf3 (fun w16 sw16 fw16 cw16 => ?_)
   have zw16 := cw16.size
   refine wl_nil ?_
   refine q_bn (q_n (k8 _ _ ?_))
   refine sx_sub (Sub.c 0 rfl (.c 1 rfl (.c 2 rfl (.c 7 rfl (.c 11 rfl (.c 12 rfl (.c 13 rfl .nil))))))) ?_
   refine sx_region ?_
   refine sp rfl (px_add rfl rfl (by omega)) ?_
   refine mv rfl rfl (wl_nil ?_)
   have q17 := Chg.step (l := lva) (h := uva) cwl5 cw16 (by omega)
   have hxl : (0 : Int) ≤ (((((os).getD k 0) - (((ys).getD k 0) * q)) - c) + (((((-((((os).getD k 0) - (((ys).getD k 0) * q)) - c)) + 1000000000) - 1) / 1000000000) * 1000000000)) ∧ (((((os).getD k 0) - (((ys).getD k 0) * q)) - c) + (((((-((((os).getD k 0) - (((ys).getD k 0) * q)) - c)) + 1000000000) - 1) / 1000000000) * 1000000000)) < 1000000000 := by omega
   have hcl : (0 : Int) ≤ ((((-((((os).getD k 0) - (((ys).getD k 0) * q)) - c)) + 1000000000) - 1) / 1000000000) ∧ ((((-((((os).getD k 0) - (((ys).getD k 0) * q)) - c)) + 1000000000) - 1) / 1000000000) < (1000000000 : Int) := by omega
   have hnx := subt_next (ys := ys) (x := (((((os).getD k 0) - (((ys).getD k 0) * q)) - c) + (((((-((((os).getD k 0) - (((ys).getD k 0) * q)) - c)) + 1000000000) - 1) / 1000000000) * 1000000000))) (c' := ((((-((((os).getD k 0) - (((ys).getD k 0) * q)) - c)) + 1000000000) - 1) / 1000000000)) (by omega) hdr hq.1 hc.1 hcl.1 hxl un.1 yn.1 (by omega) hv
   exact fun a ha => ⟨_, by omega, (k + 1), ((os).set k (((((os).getD k 0) - (((ys).getD k 0) * q)) - c) + (((((-((((os).getD k 0) - (((ys).getD k 0) * q)) - c)) + 1000000000) - 1) / 1000000000) * 1000000000))), ((((-((((os).getD k 0) - (((ys).getD k 0) * q)) - c)) + 1000000000) - 1) / 1000000000), ha.sub (Sub.c 0 rfl (.c 1 rfl (.c 2 rfl (.c 7 (look_int (t := 7) rfl (by first | omega | simp)) (.c 11 rfl (.c 12 rfl (.c 13 (look_int (t := 13) rfl (by first | omega | simp)) .nil))))))), q17, (fw16.mono (by omega) (by omega)), rfl, by omega, by rw [List.length_set]; exact ho, Lm_take_set hlm (by omega) hxl.1 hxl.2, drop_set_succ hdr, hcl, hnx⟩
  refine sx_skip ?_
  refine q_n (k13 _ _ ?_)
  refine sx_region ?_
  refine mv rfl rfl (mv rfl rfl (mv rfl rfl (sp rfl (px_index1 (j := k) rfl rfl (by omega) Try.underlying23 Try.sizeOf3 hs_va.sv (by first | omega | (simp only [List.length_set]; omega))) ?_)))
  refine sx_storeW rfl rfl hs_va (by first | omega | (simp only [List.length_set]; omega)) Try.sizeOf3 (fun w18 sw18 fw18 cw18 => ?_)
  have zw18 := cw18.size
  refine wl_nil ?_
  refine q_bn (q_n (k8 _ _ ?_))
  refine sx_sub (Sub.c 0 rfl (.c 1 rfl (.c 2 rfl (.c 7 rfl (.c 11 rfl (.c 12 rfl (.c 13 rfl .nil))))))) ?_
  refine sx_region ?_
  refine sp rfl (px_add rfl rfl (by omega)) ?_
  refine mv rfl rfl (wl_nil ?_)
  have q19 := Chg.step (l := lva) (h := uva) cwl5 cw18 (by omega)
  have hxl : (0 : Int) ≤ ((((os).getD k 0) - (((ys).getD k 0) * q)) - c) ∧ ((((os).getD k 0) - (((ys).getD k 0) * q)) - c) < 1000000000 := by omega
  have hcl : (0 : Int) ≤ 0 ∧ 0 < (1000000000 : Int) := by omega
  have hnx := subt_next (ys := ys) (x := ((((os).getD k 0) - (((ys).getD k 0) * q)) - c)) (c' := 0) (by omega) hdr hq.1 hc.1 hcl.1 hxl un.1 yn.1 (by omega) hv
  exact fun a ha => ⟨_, by omega, (k + 1), ((os).set k ((((os).getD k 0) - (((ys).getD k 0) * q)) - c)), 0, ha.sub (Sub.c 0 rfl (.c 1 rfl (.c 2 rfl (.c 7 (look_int (t := 7) rfl (by first | omega | simp)) (.c 11 rfl (.c 12 rfl (.c 13 (look_int (t := 13) rfl (by first | omega | simp)) .nil))))))), q19, (fw18.mono (by omega) (by omega)), rfl, by omega, by rw [List.length_set]; exact ho, Lm_take_set hlm (by omega) hxl.1 hxl.2, drop_set_succ hdr, hcl, hnx⟩
 refine sx_exit ?_
 refine q_e (q_e (q_bx (q_n (k3 _ _ ?_))))
 refine sx_seq fun K20 k20 => ?_
 have ek : k = ys.length := by omega
 subst ek
 refine sx_region ?_
 refine mv rfl rfl (mv rfl rfl ?_)
 have f21 := hvb.chg cwl5 (by omega)
 refine sp rfl (px_len rfl Try.underlying23 f21) ?_
 refine sp rfl (px_index1 (j := (ys).length) rfl rfl (by omega) Try.underlying23 Try.sizeOf3 hs_va.sv (by first | omega | (simp only [List.length_set]; omega))) ?_
 refine sp rfl (px_load rfl (hs_va.sv.load1 (at_int (by first | omega | (simp only [List.length_set]; omega))) Try.isAgg3)) ?_
 refine mv rfl rfl (sp rfl (px_sub rfl rfl (by omega)) ?_)
 refine sp rfl (px_index1 (j := (ys).length) rfl rfl (by omega) Try.underlying23 Try.sizeOf3 hs_va.sv (by first | omega | (simp only [List.length_set]; omega))) ?_
 refine sx_storeW rfl rfl hs_va (by first | omega | (simp only [List.length_set]; omega)) Try.sizeOf3 (fun w22 sw22 fw22 cw22 => ?_)
 have zw22 := cw22.size
 refine wl_nil (q_n (k20 _ _ ?_))
 refine sx_sub (Sub.c 0 rfl (.c 1 rfl .nil)) ?_
 refine sx_seq fun K23 k23 => sx_region ?_
 refine mv rfl rfl (mv rfl rfl ?_)
 have f24 := f21.chg cw22 (by omega)
 refine sp rfl (px_len rfl Try.underlying23 f24) ?_
 refine sp rfl (px_index1 (j := (ys).length) rfl rfl (by omega) Try.underlying23 Try.sizeOf3 fw22.sv (by first | omega | (simp only [List.length_set]; omega))) ?_
 refine sp rfl (px_load rfl (fw22.sv.load1 (at_int (by first | omega | (simp only [List.length_set]; omega))) Try.isAgg3)) ?_
 refine sp rfl (px_lt rfl rfl) ?_
 refine av rfl rfl (wl_nil (q_n (k23 _ _ ?_)))
 refine sx_retc ?_
 refine sx_ret1 Try.results93 rfl ?_
 have he := subt_end (ys := ys) (by omega) rfl hdr hq.1 hc.1 hv
 have q25 := Chg.step (l := lva) (h := uva) cwl5 cw22 (by omega)
 exact ⟨((os).set ((ys).length) (((os).getD ((ys).length) 0) - c)), rfl, fw22, ⟨by rw [List.length_set]; exact ho, by rw [take_set_self]; exact hlm, he⟩, q25⟩

theorem c_addBack {w : World} {va : Value} {lva uva : Nat} {preva sufva : List Value} {zs : List Int} {vb : Value} {lvb uvb : Nat} {ys : List Int} (hva : Win w lva uva va intT preva sufva zs) (hvb : Sl w lvb uvb vb (ys)) (hd : uvb ≤ lva ∨ uva ≤ lvb) (hzl : zs.length = ys.length + 1) (hz : Lm (zs.take ys.length)) (hy : Lm ys) (ht : -1000000000 ≤ zs.getD ys.length 0 ∧ zs.getD ys.length 0 ≤ 1000000000) (h63 : zs.length ≤ 1000) :
  Ret Try.prog 94 [va, vb] w fun v w' => ∃ os, v = .tuple #[] ∧ Win w' lva uva va intT preva sufva (os) ∧ ((os).length = (zs).length ∧ Lm ((os).take (ys).length) ∧ ((vl ((os).take (ys).length) : Nat) : Int) + ((Bs ^ (ys).length : Nat) : Int) * (os).getD (ys).length 0 = ((vl ((zs).take (ys).length) : Nat) : Int) + ((Bs ^ (ys).length : Nat) : Int) * (zs).getD (ys).length 0 + ((vl ys : Nat) : Int)) ∧ Chg lva uva w w' := by
 refine sx_enter Try.func94 rfl Try.ntmps94 (nbl rfl) ?_
 refine sx_seq fun K1 k1 => sx_region ?_
 refine av rfl rfl (wl_nil (q_n (k1 _ _ ?_)))
 refine sx_seq fun K2 k2 => ?_
 refine sx_seq fun K3 k3 => sx_region ?_
 refine mv rfl rfl (sp rfl (px_len rfl Try.underlying23 hvb) ?_)
 refine mv rfl rfl (wl_nil (q_n (k3 _ _ ?_)))
 refine sx_block ?_
 refine sx_loop (fun mm aa w' => ∃ (k : Nat) (os : List Int) (c : Nat), Agr 38 [(0, va), (1, vb), (4, .int .i64 ((c : Nat) : Int)), (7, vb), (8, .int .i64 ↑ys.length), (9, .int .i64 ↑k)] aa ∧ Chg lva uva w w' ∧ Win w' lva uva va intT preva sufva (os) ∧ (mm = ys.length - k) ∧ (k ≤ ys.length) ∧ (os.length = zs.length) ∧ (Lm (os.take k)) ∧ (os.drop k = zs.drop k) ∧ (c ≤ 1) ∧ (vl (os.take k) + Bs ^ k * c = vl (zs.take k) + vl (ys.take k))) (_) (fun a ha => ⟨0, zs, 0, ha.sub (Sub.c 0 rfl (.c 1 rfl (.c 4 (look_int (t := 4) rfl (by first | omega | simp)) (.c 7 rfl (.c 8 (look_int (t := 8) rfl (by first | omega | simp)) (.c 9 (look_int (t := 9) rfl (by first | omega | simp)) .nil)))))), Chg.refl _ _ _, hva, rfl, by omega, rfl, Lm.nil, rfl, by omega, by simp [vl]⟩) ?_
 rintro mm aa wl4 ⟨k, os, c, hAwl4, cwl4, hs_va, hm, hk, ho, hlm, hdr, hc, hv⟩
 refine (show cw Try.prog 38 _ _ _ wl4 from ?_) aa hAwl4
 clear hAwl4
 have zwl4 := cwl4.size
 refine sx_seq fun K5 k5 => sx_region ?_
 refine sp rfl (px_lt rfl rfl) ?_
 refine wl_nil (q_n (k5 _ _ ?_))
 refine sx_seq fun K6 k6 => ?_
 refine sx_condP rfl (fun h73 => ?_) (fun h73 => ?_)
 ·
  have un := hz.getD k
  rw [getD_take (by omega)] at un
  have yn := hy.getD k
  have ue := getD_drop hdr
  refine sx_skip ?_
  refine q_n (k6 _ _ ?_)
  refine sx_seq fun K7 k7 => ?_
  refine sx_block ?_
  refine sx_seq fun K8 k8 => sx_region ?_
  refine mv rfl rfl ?_
  have f9 := hvb.chg cwl4 (by omega)
  refine sp rfl (px_index1 (j := k) rfl rfl (by omega) Try.underlying23 Try.sizeOf3 f9 (by first | omega | (simp only [List.length_set]; omega))) ?_
  refine sp rfl (px_load rfl (f9.load1 (at_int (by first | omega | (simp only [List.length_set]; omega))) Try.isAgg3)) ?_
  refine av rfl rfl (av rfl rfl (wl_nil (q_n (k8 _ _ ?_))))
  refine sx_seq fun K10 k10 => sx_region ?_
  refine mv rfl rfl (mv rfl rfl (mv rfl rfl (sp rfl (px_index1 (j := k) rfl rfl (by omega) Try.underlying23 Try.sizeOf3 hs_va.sv (by first | omega | (simp only [List.length_set]; omega))) ?_)))
  refine sp rfl (px_load rfl (hs_va.sv.load1 (at_int (by first | omega | (simp only [List.length_set]; omega))) Try.isAgg3)) ?_
  refine mv rfl rfl (sp rfl (px_add rfl rfl (by omega)) ?_)
  refine sp rfl (px_add rfl rfl (by omega)) ?_
  refine av rfl rfl (wl_nil (q_n (k10 _ _ ?_)))
  refine sx_sub (Sub.c 0 rfl (.c 1 rfl (.c 4 rfl (.c 5 rfl (.c 7 rfl (.c 8 rfl (.c 9 rfl .nil))))))) ?_
  refine sx_seq fun K11 k11 => sx_region ?_
  refine mv rfl rfl (mv rfl rfl (mv rfl rfl (sp rfl (px_rem rfl rfl (by omega) (by omega)) ?_)))
  refine sp rfl (px_index1 (j := k) rfl rfl (by omega) Try.underlying23 Try.sizeOf3 hs_va.sv (by first | omega | (simp only [List.length_set]; omega))) ?_
  refine sx_storeW rfl rfl hs_va (by first | omega | (simp only [List.length_set]; omega)) Try.sizeOf3 (fun w12 sw12 fw12 cw12 => ?_)
  have zw12 := cw12.size
  refine wl_nil (q_n (k11 _ _ ?_))
  refine sx_region ?_
  refine mv rfl rfl (sp rfl (px_quo rfl rfl (by omega) (by omega) (by omega)) ?_)
  refine av rfl rfl (wl_nil ?_)
  refine q_bn (q_n (k7 _ _ ?_))
  refine sx_region ?_
  refine sp rfl (px_add rfl rfl (by omega)) ?_
  refine mv rfl rfl (wl_nil ?_)
  have q13 := Chg.step (l := lva) (h := uva) cwl4 cw12 (by omega)
  have hnx := addb_next (ys := ys) (s := (((c : Nat) : Int) + (((os).getD k 0) + ((ys).getD k 0)))) (c := c) (by omega) hdr un.1 yn.1 (by omega) hv
  exact fun a ha => ⟨_, by omega, (k + 1), ((os).set k ((((c : Nat) : Int) + (((os).getD k 0) + ((ys).getD k 0))) % 1000000000)), ((((c : Nat) : Int) + (((os).getD k 0) + ((ys).getD k 0))) / 1000000000).toNat, ha.sub (Sub.c 0 rfl (.c 1 rfl (.c 4 (look_int (t := 4) rfl (by first | omega | simp)) (.c 7 rfl (.c 8 rfl (.c 9 (look_int (t := 9) rfl (by first | omega | simp)) .nil)))))), q13, (fw12.mono (by omega) (by omega)), rfl, by omega, by rw [List.length_set]; exact ho, Lm_take_set hlm (by omega) (by omega) (by omega), drop_set_succ hdr, by omega, hnx⟩
 refine sx_exit ?_
 refine q_e (q_e (q_bx (q_n (k2 _ _ ?_))))
 have ek : k = ys.length := by omega
 subst ek
 have ue := getD_drop hdr
 refine sx_region ?_
 refine mv rfl rfl (mv rfl rfl ?_)
 have f14 := hvb.chg cwl4 (by omega)
 refine sp rfl (px_len rfl Try.underlying23 f14) ?_
 refine sp rfl (px_index1 (j := (ys).length) rfl rfl (by omega) Try.underlying23 Try.sizeOf3 hs_va.sv (by first | omega | (simp only [List.length_set]; omega))) ?_
 refine sp rfl (px_load rfl (hs_va.sv.load1 (at_int (by first | omega | (simp only [List.length_set]; omega))) Try.isAgg3)) ?_
 refine mv rfl rfl (sp rfl (px_add rfl rfl (by omega)) ?_)
 refine sp rfl (px_index1 (j := (ys).length) rfl rfl (by omega) Try.underlying23 Try.sizeOf3 hs_va.sv (by first | omega | (simp only [List.length_set]; omega))) ?_
 refine sx_storeW rfl rfl hs_va (by first | omega | (simp only [List.length_set]; omega)) Try.sizeOf3 (fun w15 sw15 fw15 cw15 => ?_)
 have zw15 := cw15.size
 refine wl_nil ?_
 refine sx_end0 rfl ?_
 have he := addb_end (ys := ys) (by omega) rfl hdr hv
 have q16 := Chg.step (l := lva) (h := uva) cwl4 cw15 (by omega)
 exact ⟨((os).set ((ys).length) (((os).getD ((ys).length) 0) + ((c : Nat) : Int))), rfl, fw15, ⟨by rw [List.length_set]; exact ho, by rw [take_set_self]; exact hlm, he⟩, q16⟩

end Go.Proofs.Ytgmoahoocakpmaa
