/- Contracts of functions of the program: what each call returns, and that it changes nothing that was. Conditions: as each says. -/
import Derived.Test.YtbmcabnpmplckaaDoorTy
import Derived.Test.YtbmcabnpmplckaaDoorNatI
import Derived.Test.YtbmcabnpmplckaaDoorSxD
import Derived.Test.YtbmcabnpmplckaaDoorSxT
import Derived.Test.YtbmcabnpmplckaaDoorTab
import Derived.Test.YtbmcabnpmplckaaDoorLay
import Derived.Test.YtbmcabnpmplckaaDoorLayB
import Derived.Test.YtbmcabnpmplckaaDoorNatX
import Derived.Test.YtbmcabnpmplckaaDoorNatRd
import Derived.Test.YtbmcabnpmplckaaDoorNatCt
import Derived.Test.YtbmcabnpmplckaaDoorSxW
import Derived.Test.YtbmcabnpmplckaaDoorNatIr
import Derived.Test.YtbmcabnpmplckaaDoorSxP
set_option linter.unusedVariables false
set_option linter.unusedSimpArgs false
namespace Go.Proofs.YtbmcabnpmplckaaDoor
open Go Go.RowKit
set_option maxRecDepth 100000
theorem c_l01All {w : World} {s : ByteArray} (hs : s.size ≤ 1048576) :
  Ret Tryd.prog 35 [.string s, .int .u8 48, .int .u8 57, .int .u8 48, .int .u8 57] w fun v w' => v = .bool (dgK s) ∧ Chg 0 0 w w' := by
 refine sx_enter Tryd.func35 rfl Tryd.ntmps35 (nbl rfl) ?_
 refine sx_seq fun K1 k1 => sx_region ?_
 refine av rfl rfl (wl_nil (q_n (k1 _ _ ?_)))
 refine sx_seq fun K2 k2 => ?_
 refine sx_seq fun K3 k3 => sx_region ?_
 refine av rfl rfl (wl_nil (q_n (k3 _ _ ?_)))
 refine sx_block ?_
 refine sx_loop (fun mm aa w' => ∃ (k : Nat), Agr 47 [(0, .string s), (1, .int .u8 48), (2, .int .u8 57), (3, .int .u8 48), (4, .int .u8 57), (11, .int .i64 ↑k)] aa ∧ Chg 0 0 w w' ∧ (mm = s.size - k) ∧ (k ≤ s.size) ∧ (∀ j, j < k → 48 ≤ strB s j ∧ strB s j ≤ 57)) (_) (fun a ha => ⟨0, ha.sub (Sub.c 0 rfl (.c 1 rfl (.c 2 rfl (.c 3 rfl (.c 4 rfl (.c 11 (look_int (t := 11) rfl (by first | omega | simp)) .nil)))))), Chg.refl _ _ _, rfl, by omega, fun j hj => absurd hj (by omega)⟩) ?_
 rintro mm aa wl4 ⟨k, hAwl4, cwl4, hm, hk, hd⟩
 refine (show cw Tryd.prog 47 _ _ _ wl4 from ?_) aa hAwl4
 clear hAwl4
 have zwl4 := cwl4.size
 have hb8 := strB_range s k
 refine sx_seq fun K5 k5 => ?_
 refine sx_seq fun K6 k6 => sx_region ?_
 refine mv rfl rfl (mv rfl rfl (sp rfl (px_lenS rfl Tryd.underlying9) ?_))
 refine sp rfl (px_lt rfl rfl) ?_
 refine wl_nil (q_n (k6 _ _ ?_))
 refine sx_condP rfl (fun h54 => ?_) (fun h54 => ?_)
 ·
  refine sx_skip ?_
  refine q_n (k5 _ _ ?_)
  refine sx_seq fun K7 k7 => ?_
  refine sx_block ?_
  refine sx_seq fun K8 k8 => sx_region ?_
  refine mv rfl rfl (mv rfl rfl (sp rfl (px_indexS (j := k) rfl rfl (by omega) Tryd.underlying9 (by omega)) ?_))
  refine mv rfl rfl (sp rfl (px_lt rfl rfl) ?_)
  refine mv rfl rfl ?_
  refine sx_tmpP (t := 23) rfl (fun h55 => ?_) (fun h55 => ?_)
  ·
   refine sx_guardF rfl rfl rfl rfl rfl rfl ?_
   refine sx_guardF rfl rfl rfl rfl rfl rfl ?_
   refine sx_guardF rfl rfl rfl rfl rfl rfl ?_
   refine sx_guardF rfl rfl rfl rfl rfl rfl ?_
   refine sx_guardF rfl rfl rfl rfl rfl rfl ?_
   refine sp rfl (px_pick rfl rfl) ?_
   refine mv rfl rfl ?_
   refine sx_guardT rfl rfl rfl ?_
   refine mv rfl rfl ?_
   refine sx_guardT rfl rfl rfl ?_
   refine mv rfl rfl ?_
   refine sx_guardT rfl rfl rfl ?_
   refine sp rfl (px_indexS (j := k) rfl rfl (by omega) Tryd.underlying9 (by omega)) ?_
   refine sx_guardT rfl rfl rfl ?_
   refine mv rfl rfl ?_
   refine sx_guardT rfl rfl rfl ?_
   refine sp rfl (px_lt rfl rfl) ?_
   refine sx_guardT rfl rfl rfl ?_
   refine mv rfl rfl ?_
   refine sx_tmpP (t := 36) rfl (fun h55x1 => ?_) (fun h55x1 => ?_)
   ·
    refine sx_guardF rfl rfl rfl rfl rfl rfl ?_
    refine sx_guardF rfl rfl rfl rfl rfl rfl ?_
    refine sx_guardF rfl rfl rfl rfl rfl rfl ?_
    refine sx_guardF rfl rfl rfl rfl rfl rfl ?_
    refine sx_guardF rfl rfl rfl rfl rfl rfl ?_
    refine sx_guardT rfl rfl rfl ?_
    refine sp rfl (px_pick rfl rfl) ?_
    refine sp rfl (px_pick rfl rfl) ?_
    refine wl_nil (q_n (k8 _ _ ?_))
    refine sx_sub (Sub.c 0 rfl (.c 1 rfl (.c 2 rfl (.c 3 rfl (.c 4 rfl (.c 11 rfl (.c 43 rfl .nil))))))) ?_
    refine sx_condT rfl ?_
    refine sx_seq fun K9 k9 => sx_region ?_
    refine av rfl rfl (wl_nil (q_n (k9 _ _ ?_)))
    refine sx_retc ?_
    refine q_br (q_r (q_r (q_br (q_r (sx_ret1 Tryd.results35 rfl ?_)))))
    rw [dgK_no (j := k) (by omega) (by omega)]
    exact ⟨rfl, cwl4⟩
   refine sx_guardT rfl rfl rfl ?_
   refine mv rfl rfl ?_
   refine sx_guardT rfl rfl rfl ?_
   refine mv rfl rfl ?_
   refine sx_guardT rfl rfl rfl ?_
   refine sp rfl (px_indexS (j := k) rfl rfl (by omega) Tryd.underlying9 (by omega)) ?_
   refine sx_guardT rfl rfl rfl ?_
   refine mv rfl rfl ?_
   refine sx_guardT rfl rfl rfl ?_
   refine sp rfl (px_gt rfl rfl) ?_
   refine sx_guardT rfl rfl rfl ?_
   refine sp rfl (px_pick rfl rfl) ?_
   refine sp rfl (px_pick rfl rfl) ?_
   refine wl_nil (q_n (k8 _ _ ?_))
   refine sx_sub (Sub.c 0 rfl (.c 1 rfl (.c 2 rfl (.c 3 rfl (.c 4 rfl (.c 11 rfl (.c 43 rfl .nil))))))) ?_
   refine sx_condP rfl (fun h55x2 => ?_) (fun h55x2 => ?_)
   ·
    refine sx_seq fun K10 k10 => sx_region ?_
    refine av rfl rfl (wl_nil (q_n (k10 _ _ ?_)))
    refine sx_retc ?_
    refine q_br (q_r (q_r (q_br (q_r (sx_ret1 Tryd.results35 rfl ?_)))))
    rw [dgK_no (j := k) (by omega) (by omega)]
    exact ⟨rfl, cwl4⟩
   refine sx_skip ?_
   refine q_bn (q_n (k7 _ _ ?_))
   refine sx_region ?_
   refine mv rfl rfl (sp rfl (px_add rfl rfl (by omega)) ?_)
   refine av rfl rfl (wl_nil ?_)
   exact fun a ha => ⟨_, by omega, (k + 1), ha.sub (Sub.c 0 rfl (.c 1 rfl (.c 2 rfl (.c 3 rfl (.c 4 rfl (.c 11 (look_int (t := 11) rfl (by first | omega | simp)) .nil)))))), cwl4, rfl, by omega, fun j hj => by
    rcases Nat.lt_or_ge j k with hl | hl
    · exact hd j hl
    · rw [show j = k by omega]; omega⟩
  refine sx_guardT rfl rfl rfl ?_
  refine mv rfl rfl ?_
  refine sx_guardT rfl rfl rfl ?_
  refine mv rfl rfl ?_
  refine sx_guardT rfl rfl rfl ?_
  refine sp rfl (px_indexS (j := k) rfl rfl (by omega) Tryd.underlying9 (by omega)) ?_
  refine sx_guardT rfl rfl rfl ?_
  refine mv rfl rfl ?_
  refine sx_guardT rfl rfl rfl ?_
  refine sp rfl (px_gt rfl rfl) ?_
  refine sp rfl (px_pick rfl rfl) ?_
  refine mv rfl rfl ?_
  refine sx_tmpP (t := 30) rfl (fun h55x1 => ?_) (fun h55x1 => ?_)
  ·
   refine sx_guardT rfl rfl rfl ?_
   refine mv rfl rfl ?_
   refine sx_guardT rfl rfl rfl ?_
   refine mv rfl rfl ?_
   refine sx_guardT rfl rfl rfl ?_
   refine sp rfl (px_indexS (j := k) rfl rfl (by omega) Tryd.underlying9 (by omega)) ?_
   refine sx_guardT rfl rfl rfl ?_
   refine mv rfl rfl ?_
   refine sx_guardT rfl rfl rfl ?_
   refine sp rfl (px_lt rfl rfl) ?_
   refine sx_guardT rfl rfl rfl ?_
   refine mv rfl rfl ?_
   refine sx_tmpP (t := 36) rfl (fun h55x2 => ?_) (fun h55x2 => ?_)
   ·
    refine sx_guardF rfl rfl rfl rfl rfl rfl ?_
    refine sx_guardF rfl rfl rfl rfl rfl rfl ?_
    refine sx_guardF rfl rfl rfl rfl rfl rfl ?_
    refine sx_guardF rfl rfl rfl rfl rfl rfl ?_
    refine sx_guardF rfl rfl rfl rfl rfl rfl ?_
    refine sx_guardT rfl rfl rfl ?_
    refine sp rfl (px_pick rfl rfl) ?_
    refine sp rfl (px_pick rfl rfl) ?_
    refine wl_nil (q_n (k8 _ _ ?_))
    refine sx_sub (Sub.c 0 rfl (.c 1 rfl (.c 2 rfl (.c 3 rfl (.c 4 rfl (.c 11 rfl (.c 43 rfl .nil))))))) ?_
    refine sx_condT rfl ?_
    refine sx_seq fun K11 k11 => sx_region ?_
    refine av rfl rfl (wl_nil (q_n (k11 _ _ ?_)))
    refine sx_retc ?_
    refine q_br (q_r (q_r (q_br (q_r (sx_ret1 Tryd.results35 rfl ?_)))))
    rw [dgK_no (j := k) (by omega) (by omega)]
    exact ⟨rfl, cwl4⟩
   refine sx_guardT rfl rfl rfl ?_
   refine mv rfl rfl ?_
   refine sx_guardT rfl rfl rfl ?_
   refine mv rfl rfl ?_
   refine sx_guardT rfl rfl rfl ?_
   refine sp rfl (px_indexS (j := k) rfl rfl (by omega) Tryd.underlying9 (by omega)) ?_
   refine sx_guardT rfl rfl rfl ?_
   refine mv rfl rfl ?_
   refine sx_guardT rfl rfl rfl ?_
   refine sp rfl (px_gt rfl rfl) ?_
   refine sx_guardT rfl rfl rfl ?_
   refine sp rfl (px_pick rfl rfl) ?_
   refine sp rfl (px_pick rfl rfl) ?_
   refine wl_nil (q_n (k8 _ _ ?_))
   refine sx_sub (Sub.c 0 rfl (.c 1 rfl (.c 2 rfl (.c 3 rfl (.c 4 rfl (.c 11 rfl (.c 43 rfl .nil))))))) ?_
   refine sx_condP rfl (fun h55x3 => ?_) (fun h55x3 => ?_)
   ·
    refine sx_seq fun K12 k12 => sx_region ?_
    refine av rfl rfl (wl_nil (q_n (k12 _ _ ?_)))
    refine sx_retc ?_
    refine q_br (q_r (q_r (q_br (q_r (sx_ret1 Tryd.results35 rfl ?_)))))
    rw [dgK_no (j := k) (by omega) (by omega)]
    exact ⟨rfl, cwl4⟩
   refine sx_skip ?_
   refine q_bn (q_n (k7 _ _ ?_))
   refine sx_region ?_
   refine mv rfl rfl (sp rfl (px_add rfl rfl (by omega)) ?_)
   refine av rfl rfl (wl_nil ?_)
   exact fun a ha => ⟨_, by omega, (k + 1), ha.sub (Sub.c 0 rfl (.c 1 rfl (.c 2 rfl (.c 3 rfl (.c 4 rfl (.c 11 (look_int (t := 11) rfl (by first | omega | simp)) .nil)))))), cwl4, rfl, by omega, fun j hj => by
    rcases Nat.lt_or_ge j k with hl | hl
    · exact hd j hl
    · rw [show j = k by omega]; omega⟩
  refine sx_guardF rfl rfl rfl rfl rfl rfl ?_
  refine sx_guardF rfl rfl rfl rfl rfl rfl ?_
  refine sx_guardF rfl rfl rfl rfl rfl rfl ?_
  refine sx_guardF rfl rfl rfl rfl rfl rfl ?_
  refine sx_guardF rfl rfl rfl rfl rfl rfl ?_
  refine sx_guardF rfl rfl rfl rfl rfl rfl ?_
  refine sx_guardFU rfl rfl rfl rfl rfl ?_
  refine sx_guardFU rfl rfl rfl rfl rfl ?_
  refine sx_guardFU rfl rfl rfl rfl rfl ?_
  refine sx_guardFU rfl rfl rfl rfl rfl ?_
  refine sx_guardFU rfl rfl rfl rfl rfl ?_
  refine sx_guardF rfl rfl rfl rfl rfl rfl ?_
  refine sp rfl (px_pick rfl rfl) ?_
  refine wl_nil (q_n (k8 _ _ ?_))
  refine sx_sub (Sub.c 0 rfl (.c 1 rfl (.c 2 rfl (.c 3 rfl (.c 4 rfl (.c 11 rfl (.c 43 rfl .nil))))))) ?_
  refine sx_condF rfl ?_
  refine sx_skip ?_
  refine q_bn (q_n (k7 _ _ ?_))
  refine sx_region ?_
  refine mv rfl rfl (sp rfl (px_add rfl rfl (by omega)) ?_)
  refine av rfl rfl (wl_nil ?_)
  exact fun a ha => ⟨_, by omega, (k + 1), ha.sub (Sub.c 0 rfl (.c 1 rfl (.c 2 rfl (.c 3 rfl (.c 4 rfl (.c 11 (look_int (t := 11) rfl (by first | omega | simp)) .nil)))))), cwl4, rfl, by omega, fun j hj => by
   rcases Nat.lt_or_ge j k with hl | hl
   · exact hd j hl
   · rw [show j = k by omega]; omega⟩
 refine sx_exit ?_
 refine q_e (q_e (q_bx (q_n (k2 _ _ ?_))))
 refine sx_seq fun K13 k13 => sx_region ?_
 refine mv rfl rfl (sp rfl (px_lenS rfl Tryd.underlying9) ?_)
 refine sp rfl (px_gt rfl rfl) ?_
 refine av rfl rfl (wl_nil (q_n (k13 _ _ ?_)))
 refine sx_retc ?_
 refine sx_ret1 Tryd.results35 rfl ?_
 rw [dgK_end (fun j hj => hd j (by omega))]
 exact ⟨congrArg Value.bool (decide_eq_decide.2 (by omega)), cwl4⟩

theorem c_sIsDigits {w : World} {s : ByteArray} (hs : s.size ≤ 1048576) :
  Ret Tryd.prog 20 [.string s] w fun v w' => v = .bool (dgK s) ∧ Chg 0 0 w w' := by
 refine sx_enter Tryd.func20 rfl Tryd.ntmps20 (nbl rfl) ?_
 refine sx_seq fun K1 k1 => sx_region ?_
 refine av rfl rfl (wl_nil (q_n (k1 _ _ ?_)))
 refine sx_seq fun K2 k2 => sx_region ?_
 refine mv rfl rfl (sx_call rfl rfl Tryd.call35 (c_l01All (by omega)) (fun v3 w3 p3 => ?_))
 obtain ⟨rfl, c3⟩ := p3
 have zw3 := c3.size
 refine av rfl rfl (wl_nil (q_n (k2 _ _ ?_)))
 refine sx_retc ?_
 refine sx_ret1 Tryd.results20 rfl ?_
 exact ⟨rfl, c3⟩

theorem c_l02Trim {w : World} {va : Value} {lva uva : Nat} {zs : List Int} (hva : OwnI w lva uva va intT (zs)) (hz : Lm zs) (h63 : zs.length ≤ 1000000) :
  Ret Tryd.prog 21 [va] w fun v w' => ∃ s, v = s ∧ OwnI w' (lva) (uva) s intT (dg (vl zs)) ∧ Chg 0 0 w w' := by
 refine sx_enter Tryd.func21 rfl Tryd.ntmps21 (nbl rfl) ?_
 refine sx_seq fun K1 k1 => sx_region ?_
 refine av rfl rfl (wl_nil (q_n (k1 _ _ ?_)))
 refine sx_seq fun K2 k2 => sx_region ?_
 refine mv rfl rfl (sp rfl (px_len rfl Tryd.underlying22 hva.sv) ?_)
 refine av rfl rfl (wl_nil (q_n (k2 _ _ ?_)))
 refine sx_seq fun K3 k3 => ?_
 refine sx_block ?_
 refine sx_loop (fun mm aa w' => ∃ (k : Nat), Agr 21 [(0, va), (3, .int .i64 ↑k)] aa ∧ Chg 0 0 w w' ∧ (mm = k) ∧ (k ≤ zs.length) ∧ (vl (zs.take k) = vl zs)) (_) (fun a ha => ⟨zs.length, ha.sub (Sub.c 0 rfl (.c 3 (look_int (t := 3) rfl (by first | omega | simp)) .nil)), Chg.refl _ _ _, rfl, by omega, vl_take_all zs⟩) ?_
 rintro mm aa wl4 ⟨k, hAwl4, cwl4, hm, hk, hv⟩
 refine (show cw Tryd.prog 21 _ _ _ wl4 from ?_) aa hAwl4
 clear hAwl4
 have zwl4 := cwl4.size
 refine sx_seq fun K5 k5 => ?_
 refine sx_seq fun K6 k6 => sx_region ?_
 refine mv rfl rfl (sp rfl (px_gt rfl rfl) ?_)
 refine mv rfl rfl ?_
 refine sx_tmpP (t := 8) rfl (fun h17 => ?_) (fun h17 => ?_)
 ·
  refine sx_guardT rfl rfl rfl ?_
  refine mv rfl rfl ?_
  refine sx_guardT rfl rfl rfl ?_
  refine mv rfl rfl ?_
  refine sx_guardT rfl rfl rfl ?_
  refine sp rfl (px_sub rfl rfl (by omega)) ?_
  refine sx_guardT rfl rfl rfl ?_
  have f7 := hva.ext cwl4
  refine sp rfl (px_index1 (j := (k - 1)) rfl rfl (by omega) Tryd.underlying22 Tryd.sizeOf3 f7.sv (by omega)) ?_
  refine sx_guardT rfl rfl rfl ?_
  refine sp rfl (px_load rfl (f7.sv.load1 (at_int (by omega)) Tryd.isAgg3)) ?_
  refine sx_guardT rfl rfl rfl ?_
  refine sp rfl (px_eq rfl rfl) ?_
  refine sp rfl (px_pick rfl rfl) ?_
  refine wl_nil (q_n (k6 _ _ ?_))
  refine sx_condP rfl (fun h17x1 => ?_) (fun h17x1 => ?_)
  ·
   refine sx_skip ?_
   refine q_n (k5 _ _ ?_)
   refine sx_block ?_
   refine sx_region ?_
   refine mv rfl rfl (sp rfl (px_sub rfl rfl (by omega)) ?_)
   refine av rfl rfl (wl_nil ?_)
   exact q_bn (fun a ha => ⟨_, by omega, (k - 1), ha.sub (Sub.c 0 rfl (.c 3 (look_int (t := 3) rfl (by first | omega | simp)) .nil)), cwl4, rfl, by omega, trim_step (by omega) hk (by rw [getD_take (by omega)]; exact h17x1) hv⟩)
  refine sx_exit ?_
  refine q_e (q_e (q_bx (q_n (k3 _ _ ?_))))
  refine sx_seq fun K8 k8 => sx_region ?_
  refine mv rfl rfl (mv rfl rfl (sp rfl (px_sliceTo (h := k) rfl rfl (by omega) Tryd.underlying22 Tryd.sizeOf3 f7.sv (by omega)) ?_))
  refine av rfl rfl (wl_nil (q_n (k8 _ _ ?_)))
  refine sx_sub (Sub.c 2 rfl .nil) ?_
  refine sx_retc ?_
  refine sx_ret1 Tryd.results21 rfl ?_
  have hd := trim_done hz hk hv (by first | exact .inl (by omega) | exact .inr (by rw [getD_take (by omega)]; assumption))
  rw [← hd]
  exact ⟨_, rfl, (Own.takeI f7 (h := k) (by omega)), cwl4⟩
 refine sx_guardF rfl rfl rfl rfl rfl rfl ?_
 refine sx_guardF rfl rfl rfl rfl rfl rfl ?_
 refine sx_guardF rfl rfl rfl rfl rfl rfl ?_
 refine sx_guardF rfl rfl rfl rfl rfl rfl ?_
 refine sx_guardF rfl rfl rfl rfl rfl rfl ?_
 refine sx_guardF rfl rfl rfl rfl rfl rfl ?_
 refine sp rfl (px_pick rfl rfl) ?_
 refine wl_nil (q_n (k6 _ _ ?_))
 refine sx_condF rfl ?_
 refine sx_exit ?_
 refine q_e (q_e (q_bx (q_n (k3 _ _ ?_))))
 refine sx_seq fun K9 k9 => sx_region ?_
 refine mv rfl rfl (mv rfl rfl ?_)
 have f10 := hva.ext cwl4
 refine sp rfl (px_sliceTo (h := k) rfl rfl (by omega) Tryd.underlying22 Tryd.sizeOf3 f10.sv (by omega)) ?_
 refine av rfl rfl (wl_nil (q_n (k9 _ _ ?_)))
 refine sx_sub (Sub.c 2 rfl .nil) ?_
 refine sx_retc ?_
 refine sx_ret1 Tryd.results21 rfl ?_
 have hd := trim_done hz hk hv (by first | exact .inl (by omega) | exact .inr (by rw [getD_take (by omega)]; assumption))
 rw [← hd]
 exact ⟨_, rfl, (Own.takeI f10 (h := k) (by omega)), cwl4⟩

theorem c_l02TrimS {w : World} {va : Value} {lva uva : Nat} {zs : List Int} (hva : Sl w lva uva va (zs)) (hz : Lm zs) (h63 : zs.length ≤ 1000000) :
  Ret Tryd.prog 21 [va] w fun v w' => ∃ s, v = s ∧ Sl w' (lva) (uva) s (dg (vl zs)) ∧ Chg 0 0 w w' := by
 refine sx_enter Tryd.func21 rfl Tryd.ntmps21 (nbl rfl) ?_
 refine sx_seq fun K1 k1 => sx_region ?_
 refine av rfl rfl (wl_nil (q_n (k1 _ _ ?_)))
 refine sx_seq fun K2 k2 => sx_region ?_
 refine mv rfl rfl (sp rfl (px_len rfl Tryd.underlying22 hva) ?_)
 refine av rfl rfl (wl_nil (q_n (k2 _ _ ?_)))
 refine sx_seq fun K3 k3 => ?_
 refine sx_block ?_
 refine sx_loop (fun mm aa w' => ∃ (k : Nat), Agr 21 [(0, va), (3, .int .i64 ↑k)] aa ∧ Chg 0 0 w w' ∧ (mm = k) ∧ (k ≤ zs.length) ∧ (vl (zs.take k) = vl zs)) (_) (fun a ha => ⟨zs.length, ha.sub (Sub.c 0 rfl (.c 3 (look_int (t := 3) rfl (by first | omega | simp)) .nil)), Chg.refl _ _ _, rfl, by omega, vl_take_all zs⟩) ?_
 rintro mm aa wl4 ⟨k, hAwl4, cwl4, hm, hk, hv⟩
 refine (show cw Tryd.prog 21 _ _ _ wl4 from ?_) aa hAwl4
 clear hAwl4
 have zwl4 := cwl4.size
 refine sx_seq fun K5 k5 => ?_
 refine sx_seq fun K6 k6 => sx_region ?_
 refine mv rfl rfl (sp rfl (px_gt rfl rfl) ?_)
 refine mv rfl rfl ?_
 refine sx_tmpP (t := 8) rfl (fun h17 => ?_) (fun h17 => ?_)
 ·
  refine sx_guardT rfl rfl rfl ?_
  refine mv rfl rfl ?_
  refine sx_guardT rfl rfl rfl ?_
  refine mv rfl rfl ?_
  refine sx_guardT rfl rfl rfl ?_
  refine sp rfl (px_sub rfl rfl (by omega)) ?_
  refine sx_guardT rfl rfl rfl ?_
  have f7 := hva.ext cwl4
  refine sp rfl (px_index1 (j := (k - 1)) rfl rfl (by omega) Tryd.underlying22 Tryd.sizeOf3 f7 (by omega)) ?_
  refine sx_guardT rfl rfl rfl ?_
  refine sp rfl (px_load rfl (f7.load1 (at_int (by omega)) Tryd.isAgg3)) ?_
  refine sx_guardT rfl rfl rfl ?_
  refine sp rfl (px_eq rfl rfl) ?_
  refine sp rfl (px_pick rfl rfl) ?_
  refine wl_nil (q_n (k6 _ _ ?_))
  refine sx_condP rfl (fun h17x1 => ?_) (fun h17x1 => ?_)
  ·
   refine sx_skip ?_
   refine q_n (k5 _ _ ?_)
   refine sx_block ?_
   refine sx_region ?_
   refine mv rfl rfl (sp rfl (px_sub rfl rfl (by omega)) ?_)
   refine av rfl rfl (wl_nil ?_)
   exact q_bn (fun a ha => ⟨_, by omega, (k - 1), ha.sub (Sub.c 0 rfl (.c 3 (look_int (t := 3) rfl (by first | omega | simp)) .nil)), cwl4, rfl, by omega, trim_step (by omega) hk (by rw [getD_take (by omega)]; exact h17x1) hv⟩)
  refine sx_exit ?_
  refine q_e (q_e (q_bx (q_n (k3 _ _ ?_))))
  refine sx_seq fun K8 k8 => sx_region ?_
  refine mv rfl rfl (mv rfl rfl (sp rfl (px_sliceTo (h := k) rfl rfl (by omega) Tryd.underlying22 Tryd.sizeOf3 f7 (by omega)) ?_))
  refine av rfl rfl (wl_nil (q_n (k8 _ _ ?_)))
  refine sx_sub (Sub.c 2 rfl .nil) ?_
  refine sx_retc ?_
  refine sx_ret1 Tryd.results21 rfl ?_
  have hd := trim_done hz hk hv (by first | exact .inl (by omega) | exact .inr (by rw [getD_take (by omega)]; assumption))
  rw [← hd]
  exact ⟨_, rfl, (Sv.takeI f7 (h := k) (by omega)), cwl4⟩
 refine sx_guardF rfl rfl rfl rfl rfl rfl ?_
 refine sx_guardF rfl rfl rfl rfl rfl rfl ?_
 refine sx_guardF rfl rfl rfl rfl rfl rfl ?_
 refine sx_guardF rfl rfl rfl rfl rfl rfl ?_
 refine sx_guardF rfl rfl rfl rfl rfl rfl ?_
 refine sx_guardF rfl rfl rfl rfl rfl rfl ?_
 refine sp rfl (px_pick rfl rfl) ?_
 refine wl_nil (q_n (k6 _ _ ?_))
 refine sx_condF rfl ?_
 refine sx_exit ?_
 refine q_e (q_e (q_bx (q_n (k3 _ _ ?_))))
 refine sx_seq fun K9 k9 => sx_region ?_
 refine mv rfl rfl (mv rfl rfl ?_)
 have f10 := hva.ext cwl4
 refine sp rfl (px_sliceTo (h := k) rfl rfl (by omega) Tryd.underlying22 Tryd.sizeOf3 f10 (by omega)) ?_
 refine av rfl rfl (wl_nil (q_n (k9 _ _ ?_)))
 refine sx_sub (Sub.c 2 rfl .nil) ?_
 refine sx_retc ?_
 refine sx_ret1 Tryd.results21 rfl ?_
 have hd := trim_done hz hk hv (by first | exact .inl (by omega) | exact .inr (by rw [getD_take (by omega)]; assumption))
 rw [← hd]
 exact ⟨_, rfl, (Sv.takeI f10 (h := k) (by omega)), cwl4⟩

theorem c_l02TrimD {w : World} {va : Value} {lva uva : Nat} {m : Nat} (hva : Sl w lva uva va (dg m)) (h63 : (dg m).length ≤ 1000000) :
  Ret Tryd.prog 21 [va] w fun v w' => ∃ s, v = s ∧ Sl w' (lva) (uva) s (dg m) ∧ Chg 0 0 w w' := by
 simpa only [vl_dg] using c_l02TrimS hva (Lm_dg m) h63

theorem c_sTextNat {w : World} {s : ByteArray} (hs : s.size ≤ 1048576) :
  Ret Tryd.prog 9 [.string s] w fun v w' => ∃ x, v = .tuple #[x, .bool (tnK s)] ∧ OwnI w' w.heap.size w'.heap.size x intT (dg (tnV s)) ∧ Chg 0 0 w w' := by
 refine sx_enter Tryd.func9 rfl Tryd.ntmps9 (nbl rfl) ?_
 refine sx_seq fun K1 k1 => sx_region ?_
 refine av rfl rfl (av rfl rfl (wl_nil (q_n (k1 _ _ ?_))))
 refine sx_seq fun K2 k2 => ?_
 refine sx_seq fun K3 k3 => sx_region ?_
 refine mv rfl rfl (sx_call rfl rfl Tryd.call20 (c_sIsDigits (by omega)) (fun v4 w4 p4 => ?_))
 obtain ⟨rfl, c4⟩ := p4
 have zw4 := c4.size
 refine sp rfl (px_not rfl) ?_
 refine mv rfl rfl ?_
 refine sx_tmpB (t := 12) rfl (fun h180 => ?_) (fun h180 => ?_)
 ·
  refine sx_guardF rfl rfl rfl rfl rfl rfl ?_
  refine sx_guardF rfl rfl rfl rfl rfl rfl ?_
  refine sx_guardF rfl rfl rfl rfl rfl rfl ?_
  refine sp rfl (px_pick rfl rfl) ?_
  refine mv rfl rfl ?_
  refine sx_guardF rfl rfl rfl rfl rfl rfl ?_
  refine sx_guardF rfl rfl rfl rfl rfl rfl ?_
  refine sx_guardF rfl rfl rfl rfl rfl rfl ?_
  refine sx_guardF rfl rfl rfl rfl rfl rfl ?_
  refine sx_guardFU rfl rfl rfl rfl rfl ?_
  refine sx_guardFU rfl rfl rfl rfl rfl ?_
  refine sx_guardFU rfl rfl rfl rfl rfl ?_
  refine sx_guardF rfl rfl rfl rfl rfl rfl ?_
  refine sp rfl (px_pick rfl rfl) ?_
  refine wl_nil (q_n (k3 _ _ ?_))
  refine sx_sub (Sub.c 0 rfl (.c 2 rfl (.c 3 rfl (.c 26 rfl .nil)))) ?_
  refine sx_condT rfl ?_
  refine sx_seq fun K5 k5 => sx_region ?_
  refine av rfl rfl (av rfl rfl (wl_nil (q_n (k5 _ _ ?_))))
  refine sx_retc ?_
  refine q_r (sx_ret2 Tryd.results9 rfl rfl ?_)
  have hK : tnK s = false := tnK_no (by rintro ⟨a, b, c⟩; rcases Nat.lt_or_ge 1 s.size with h1 | h1 <;> (first | (have := c h1; omega) | omega | simp_all))
  rw [tnV_no hK, hK, dg_zero]
  exact ⟨_, rfl, Own.nil _ _ _ _ _, c4⟩
 have hdg := dgK_yes (by simp_all : dgK s = true)
 have hD := hdg.1
 refine sx_guardT rfl rfl rfl ?_
 refine mv rfl rfl ?_
 refine sx_guardT rfl rfl rfl ?_
 refine sp rfl (px_lenS rfl Tryd.underlying9) ?_
 refine sx_guardT rfl rfl rfl ?_
 refine sp rfl (px_gt rfl rfl) ?_
 refine sp rfl (px_pick rfl rfl) ?_
 refine mv rfl rfl ?_
 refine sx_tmpP (t := 17) rfl (fun h180x1 => ?_) (fun h180x1 => ?_)
 ·
  refine sx_guardF rfl rfl rfl rfl rfl rfl ?_
  refine sx_guardF rfl rfl rfl rfl rfl rfl ?_
  refine sx_guardF rfl rfl rfl rfl rfl rfl ?_
  refine sx_guardF rfl rfl rfl rfl rfl rfl ?_
  refine sx_guardFU rfl rfl rfl rfl rfl ?_
  refine sx_guardFU rfl rfl rfl rfl rfl ?_
  refine sx_guardFU rfl rfl rfl rfl rfl ?_
  refine sx_guardF rfl rfl rfl rfl rfl rfl ?_
  refine sp rfl (px_pick rfl rfl) ?_
  refine wl_nil (q_n (k3 _ _ ?_))
  refine sx_sub (Sub.c 0 rfl (.c 2 rfl (.c 3 rfl (.c 26 rfl .nil)))) ?_
  refine sx_condT rfl ?_
  refine sx_seq fun K6 k6 => sx_region ?_
  refine av rfl rfl (av rfl rfl (wl_nil (q_n (k6 _ _ ?_))))
  refine sx_retc ?_
  refine q_r (sx_ret2 Tryd.results9 rfl rfl ?_)
  have hK : tnK s = false := tnK_no (by rintro ⟨a, b, c⟩; rcases Nat.lt_or_ge 1 s.size with h1 | h1 <;> (first | (have := c h1; omega) | omega | simp_all))
  rw [tnV_no hK, hK, dg_zero]
  exact ⟨_, rfl, Own.nil _ _ _ _ _, c4⟩
 refine sx_guardT rfl rfl rfl ?_
 refine mv rfl rfl ?_
 refine sx_guardT rfl rfl rfl ?_
 refine sp rfl (px_lenS rfl Tryd.underlying9) ?_
 refine sx_guardT rfl rfl rfl ?_
 refine sp rfl (px_gt rfl rfl) ?_
 refine sx_guardT rfl rfl rfl ?_
 refine mv rfl rfl ?_
 refine sx_tmpP (t := 21) rfl (fun h180x2 => ?_) (fun h180x2 => ?_)
 ·
  refine sx_guardT rfl rfl rfl ?_
  refine mv rfl rfl ?_
  refine sx_guardT rfl rfl rfl ?_
  refine sp rfl (px_indexS (j := 0) rfl rfl (by omega) Tryd.underlying9 (by omega)) ?_
  refine sx_guardT rfl rfl rfl ?_
  refine sp rfl (px_eq rfl rfl) ?_
  refine sx_guardT rfl rfl rfl ?_
  refine sp rfl (px_pick rfl rfl) ?_
  refine sp rfl (px_pick rfl rfl) ?_
  refine wl_nil (q_n (k3 _ _ ?_))
  refine sx_sub (Sub.c 0 rfl (.c 2 rfl (.c 3 rfl (.c 26 rfl .nil)))) ?_
  refine sx_condP rfl (fun h180x3 => ?_) (fun h180x3 => ?_)
  ·
   refine sx_seq fun K7 k7 => sx_region ?_
   refine av rfl rfl (av rfl rfl (wl_nil (q_n (k7 _ _ ?_))))
   refine sx_retc ?_
   refine q_r (sx_ret2 Tryd.results9 rfl rfl ?_)
   have hK : tnK s = false := tnK_no (by rintro ⟨a, b, c⟩; rcases Nat.lt_or_ge 1 s.size with h1 | h1 <;> (first | (have := c h1; omega) | omega | simp_all))
   rw [tnV_no hK, hK, dg_zero]
   exact ⟨_, rfl, Own.nil _ _ _ _ _, c4⟩
  refine sx_skip ?_
  refine q_n (k2 _ _ ?_)
  refine sx_seq fun K8 k8 => sx_region ?_
  refine sx_lit0 rfl xelt22 (fun s9 ws9 ss9 fs9 cs9 => ?_)
  have zws9 := cs9.size
  refine av rfl rfl (wl_nil (q_n (k8 _ _ ?_)))
  refine sx_seq fun K10 k10 => ?_
  refine sx_seq fun K11 k11 => sx_region ?_
  refine mv rfl rfl (sp rfl (px_lenS rfl Tryd.underlying9) ?_)
  refine av rfl rfl (wl_nil (q_n (k11 _ _ ?_)))
  refine sx_block ?_
  refine sx_loop (fun mm aa w' => ∃ (s1 : Value) (os : List Int) (k : Nat), Agr 58 [(0, .string s), (4, s1), (5, .int .i64 (↑s.size - 9 * (k : Int)))] aa ∧ Chg w4.heap.size ws9.heap.size ws9 w' ∧ Own w' w4.heap.size w'.heap.size s1 intT os.length 1 (os.map (Value.int .i64)) ∧ (mm = s.size + 9 - 9 * k) ∧ (os.length = k) ∧ (Lm os) ∧ (9 * k ≤ s.size + 8) ∧ (vl os + Bs ^ k * dval (s.data.toList.take (s.size - 9 * k)) = dval s.data.toList)) (_) (fun a ha => ⟨s9, [], 0, ha.sub (Sub.c 0 rfl (.c 4 rfl (.c 5 (look_int (t := 5) rfl (by first | omega | (simp; done) | simp [dval])) .nil))), Chg.refl _ _ _, (fs9.mono (by omega) (by omega)), rfl, rfl, Lm.nil, by omega, by rw [show s.size - 9 * 0 = s.data.toList.length by rw [sz_list]; omega, List.take_length]; simp [vl]⟩) ?_
  rintro mm aa wl12 ⟨s1, os, k, hAwl12, cwl12, hs_s1, hm, hos, hlm, hk, hv⟩
  refine (show cw Tryd.prog 58 _ _ _ wl12 from ?_) aa hAwl12
  clear hAwl12
  have zwl12 := cwl12.size
  refine sx_seq fun K13 k13 => ?_
  refine sx_seq fun K14 k14 => sx_region ?_
  refine mv rfl rfl (sp rfl (px_gt rfl rfl) ?_)
  refine wl_nil (q_n (k14 _ _ ?_))
  refine sx_condP rfl (fun h184 => ?_) (fun h184 => ?_)
  ·
   refine sx_skip ?_
   refine q_n (k13 _ _ ?_)
   refine sx_seq fun K15 k15 => ?_
   refine sx_block ?_
   refine sx_seq fun K16 k16 => sx_region ?_
   refine mv rfl rfl (sp rfl (px_sub rfl rfl (by omega)) ?_)
   refine av rfl rfl (wl_nil (q_n (k16 _ _ ?_)))
   refine sx_seq fun K17 k17 => ?_
   refine sx_seq fun K18 k18 => sx_region ?_
   refine mv rfl rfl (sp rfl (px_lt rfl rfl) ?_)
   refine wl_nil (q_n (k18 _ _ ?_))
   refine sx_condP rfl (fun h186 => ?_) (fun h186 => ?_)
   ·
    refine sx_region ?_
    refine av rfl rfl (wl_nil (q_n (k17 _ _ ?_)))
    refine sx_seq fun K19 k19 => sx_region ?_
    refine av rfl rfl (wl_nil (q_n (k19 _ _ ?_)))
    refine sx_seq fun K20 k20 => ?_
    refine sx_seq fun K21 k21 => sx_region ?_
    refine mv rfl rfl (av rfl rfl (wl_nil (q_n (k21 _ _ ?_))))
    refine sx_block ?_
    refine sx_loop (fun mm aa w' => ∃ (j : Nat), Agr 58 [(0, .string s), (4, s1), (5, .int .i64 (↑s.size - 9 * (k : Int))), (7, .int .i64 ((dval ((s.data.toList.drop (s.size - 9 * k - 9)).take j) : Nat) : Int)), (8, .int .i64 (((s.size - 9 * k - 9) + j : Nat) : Int))] aa ∧ Chg 0 0 wl12 w' ∧ (mm = s.size - 9 * k - ((s.size - 9 * k - 9) + j)) ∧ ((s.size - 9 * k - 9) + j ≤ s.size - 9 * k)) (_) (fun a ha => ⟨0, ha.sub (Sub.c 0 rfl (.c 4 rfl (.c 5 rfl (.c 7 (look_int (t := 7) rfl (by first | omega | (simp; done) | simp [dval])) (.c 8 (look_int (t := 8) rfl (by first | omega | (simp; done) | simp [dval])) .nil))))), Chg.refl _ _ _, rfl, by omega⟩) ?_
    rintro mm aa wl22 ⟨j, hAwl22, cwl22, hm, hj⟩
    refine (show cw Tryd.prog 58 _ _ _ wl22 from ?_) aa hAwl22
    clear hAwl22
    have zwl22 := cwl22.size
    have hn9 := dval9 hD (s.size - 9 * k - 9) j (by omega)
    refine sx_seq fun K23 k23 => ?_
    refine sx_seq fun K24 k24 => sx_region ?_
    refine mv rfl rfl (mv rfl rfl (sp rfl (px_lt rfl rfl) ?_))
    refine wl_nil (q_n (k24 _ _ ?_))
    refine sx_condP rfl (fun h190 => ?_) (fun h190 => ?_)
    ·
     have hb8 := dgs_at hD (j := (s.size - 9 * k - 9) + j) (by omega)
     have hbs := dval_byte hD (f := (s.size - 9 * k - 9)) (j := j) (by omega)
     refine sx_skip ?_
     refine q_n (k23 _ _ ?_)
     refine sx_seq fun K25 k25 => ?_
     refine sx_block ?_
     refine sx_region ?_
     refine mv rfl rfl (sp rfl (px_mul rfl rfl (by omega)) ?_)
     refine mv rfl rfl (mv rfl rfl (sp rfl (px_indexS (j := ((s.size - 9 * k - 9) + j)) rfl rfl (by omega) Tryd.underlying9 (by omega)) ?_))
     refine sp rfl (px_conv8 Tryd.underlying5 Tryd.underlying3 rfl (by omega)) ?_
     refine sp rfl (px_add rfl rfl (by omega)) ?_
     refine sp rfl (px_sub rfl rfl (by omega)) ?_
     refine av rfl rfl (wl_nil ?_)
     refine q_bn (q_n (k25 _ _ ?_))
     refine sx_sub (Sub.c 0 rfl (.c 4 rfl (.c 5 rfl (.c 7 rfl (.c 8 rfl .nil))))) ?_
     refine sx_region ?_
     refine mv rfl rfl (sp rfl (px_add rfl rfl (by omega)) ?_)
     refine av rfl rfl (wl_nil ?_)
     exact fun a ha => ⟨_, by omega, (j + 1), ha.sub (Sub.c 0 rfl (.c 4 rfl (.c 5 rfl (.c 7 (look_int (t := 7) rfl (by first | omega | (simp; done) | simp [dval])) (.c 8 (look_int (t := 8) rfl (by first | omega | (simp; done) | simp [dval])) .nil))))), cwl22, rfl, by omega⟩
    refine sx_exit ?_
    refine q_e (q_e (q_bx (q_n (k20 _ _ ?_))))
    refine sx_region ?_
    refine mv rfl rfl (mv rfl rfl ?_)
    refine sx_lit1 rfl xelt22 rfl rfl (fun s26 ws26 ss26 fs26 cs26 => ?_)
    have ns26 := Own.norm (f := (Value.int .i64)) (zs := [((dval ((s.data.toList.drop (s.size - 9 * k - 9)).take j) : Nat) : Int)]) fs26
    have zws26 := cs26.size
    have f28 := hs_s1.ext cwl22
    have f29 := f28.ext cs26
    refine sx_append rfl xelt22 rfl rfl f29 ns26.sv one_int (by omega) (by simp only [List.length_cons, List.length_nil]; omega) (by unfold maxLen; simp only [List.length_cons, List.length_nil]; omega) (fun a27 w27 fw27 cw27 => ?_)
    have nw27 := Own.app (f := (Value.int .i64)) (a := os) (b := [((dval ((s.data.toList.drop (s.size - 9 * k - 9)).take j) : Nat) : Int)]) fw27
    have zw27 := cw27.size
    refine av rfl rfl (wl_nil ?_)
    refine q_bn (q_n (k15 _ _ ?_))
    refine sx_region ?_
    refine mv rfl rfl (sp rfl (px_sub rfl rfl (by omega)) ?_)
    refine av rfl rfl (wl_nil ?_)
    have q30 := Chg.step (l := w4.heap.size) (h := ws9.heap.size) cwl12 (cwl22.t cs26) (by omega)
    have q31 := Chg.step (l := w4.heap.size) (h := ws9.heap.size) q30 cw27 (by omega)
    have hX := dval9 hD (s.size - 9 * k - 9) j (by omega)
    exact fun a ha => ⟨_, by omega, a27, (os ++ ([((dval ((s.data.toList.drop (s.size - 9 * k - 9)).take j) : Nat) : Int)])), (k + 1), ha.sub (Sub.c 0 rfl (.c 4 rfl (.c 5 (look_int (t := 5) rfl (by first | omega | (simp; done) | simp [dval])) .nil))), q31, (nw27.mono (by omega) (by omega)), rfl, by simp [hos], hlm.append (Lm.single (by omega) (by omega)), by omega, limbs_next hos rfl (by omega) (by omega) hv⟩
   refine sx_skip ?_
   refine q_n (k17 _ _ ?_)
   refine sx_seq fun K32 k32 => sx_region ?_
   refine av rfl rfl (wl_nil (q_n (k32 _ _ ?_)))
   refine sx_seq fun K33 k33 => ?_
   refine sx_seq fun K34 k34 => sx_region ?_
   refine mv rfl rfl (av rfl rfl (wl_nil (q_n (k34 _ _ ?_))))
   refine sx_block ?_
   refine sx_loop (fun mm aa w' => ∃ (j : Nat), Agr 58 [(0, .string s), (4, s1), (5, .int .i64 (↑s.size - 9 * (k : Int))), (7, .int .i64 ((dval ((s.data.toList.drop (s.size - 9 * k - 9)).take j) : Nat) : Int)), (8, .int .i64 (((s.size - 9 * k - 9) + j : Nat) : Int))] aa ∧ Chg 0 0 wl12 w' ∧ (mm = s.size - 9 * k - ((s.size - 9 * k - 9) + j)) ∧ ((s.size - 9 * k - 9) + j ≤ s.size - 9 * k)) (_) (fun a ha => ⟨0, ha.sub (Sub.c 0 rfl (.c 4 rfl (.c 5 rfl (.c 7 (look_int (t := 7) rfl (by first | omega | (simp; done) | simp [dval])) (.c 8 (look_int (t := 8) rfl (by first | omega | (simp; done) | simp [dval])) .nil))))), Chg.refl _ _ _, rfl, by omega⟩) ?_
   rintro mm aa wl35 ⟨j, hAwl35, cwl35, hm, hj⟩
   refine (show cw Tryd.prog 58 _ _ _ wl35 from ?_) aa hAwl35
   clear hAwl35
   have zwl35 := cwl35.size
   have hn9 := dval9 hD (s.size - 9 * k - 9) j (by omega)
   refine sx_seq fun K36 k36 => ?_
   refine sx_seq fun K37 k37 => sx_region ?_
   refine mv rfl rfl (mv rfl rfl (sp rfl (px_lt rfl rfl) ?_))
   refine wl_nil (q_n (k37 _ _ ?_))
   refine sx_condP rfl (fun h190 => ?_) (fun h190 => ?_)
   ·
    have hb8 := dgs_at hD (j := (s.size - 9 * k - 9) + j) (by omega)
    have hbs := dval_byte hD (f := (s.size - 9 * k - 9)) (j := j) (by omega)
    refine sx_skip ?_
    refine q_n (k36 _ _ ?_)
    refine sx_seq fun K38 k38 => ?_
    refine sx_block ?_
    refine sx_region ?_
    refine mv rfl rfl (sp rfl (px_mul rfl rfl (by omega)) ?_)
    refine mv rfl rfl (mv rfl rfl (sp rfl (px_indexS (j := ((s.size - 9 * k - 9) + j)) rfl rfl (by omega) Tryd.underlying9 (by omega)) ?_))
    refine sp rfl (px_conv8 Tryd.underlying5 Tryd.underlying3 rfl (by omega)) ?_
    refine sp rfl (px_add rfl rfl (by omega)) ?_
    refine sp rfl (px_sub rfl rfl (by omega)) ?_
    refine av rfl rfl (wl_nil ?_)
    refine q_bn (q_n (k38 _ _ ?_))
    refine sx_sub (Sub.c 0 rfl (.c 4 rfl (.c 5 rfl (.c 7 rfl (.c 8 rfl .nil))))) ?_
    refine sx_region ?_
    refine mv rfl rfl (sp rfl (px_add rfl rfl (by omega)) ?_)
    refine av rfl rfl (wl_nil ?_)
    exact fun a ha => ⟨_, by omega, (j + 1), ha.sub (Sub.c 0 rfl (.c 4 rfl (.c 5 rfl (.c 7 (look_int (t := 7) rfl (by first | omega | (simp; done) | simp [dval])) (.c 8 (look_int (t := 8) rfl (by first | omega | (simp; done) | simp [dval])) .nil))))), cwl35, rfl, by omega⟩
   refine sx_exit ?_
   refine q_e (q_e (q_bx (q_n (k33 _ _ ?_))))
   refine sx_region ?_
   refine mv rfl rfl (mv rfl rfl ?_)
   refine sx_lit1 rfl xelt22 rfl rfl (fun s39 ws39 ss39 fs39 cs39 => ?_)
   have ns39 := Own.norm (f := (Value.int .i64)) (zs := [((dval ((s.data.toList.drop (s.size - 9 * k - 9)).take j) : Nat) : Int)]) fs39
   have zws39 := cs39.size
   have f41 := hs_s1.ext cwl35
   have f42 := f41.ext cs39
   refine sx_append rfl xelt22 rfl rfl f42 ns39.sv one_int (by omega) (by simp only [List.length_cons, List.length_nil]; omega) (by unfold maxLen; simp only [List.length_cons, List.length_nil]; omega) (fun a40 w40 fw40 cw40 => ?_)
   have nw40 := Own.app (f := (Value.int .i64)) (a := os) (b := [((dval ((s.data.toList.drop (s.size - 9 * k - 9)).take j) : Nat) : Int)]) fw40
   have zw40 := cw40.size
   refine av rfl rfl (wl_nil ?_)
   refine q_bn (q_n (k15 _ _ ?_))
   refine sx_region ?_
   refine mv rfl rfl (sp rfl (px_sub rfl rfl (by omega)) ?_)
   refine av rfl rfl (wl_nil ?_)
   have q43 := Chg.step (l := w4.heap.size) (h := ws9.heap.size) cwl12 (cwl35.t cs39) (by omega)
   have q44 := Chg.step (l := w4.heap.size) (h := ws9.heap.size) q43 cw40 (by omega)
   have hX := dval9 hD (s.size - 9 * k - 9) j (by omega)
   exact fun a ha => ⟨_, by omega, a40, (os ++ ([((dval ((s.data.toList.drop (s.size - 9 * k - 9)).take j) : Nat) : Int)])), (k + 1), ha.sub (Sub.c 0 rfl (.c 4 rfl (.c 5 (look_int (t := 5) rfl (by first | omega | (simp; done) | simp [dval])) .nil))), q44, (nw40.mono (by omega) (by omega)), rfl, by simp [hos], hlm.append (Lm.single (by omega) (by omega)), by omega, limbs_next hos rfl (by omega) (by omega) hv⟩
  refine sx_exit ?_
  refine q_e (q_e (q_bx (q_n (k10 _ _ ?_))))
  refine sx_seq fun K45 k45 => sx_region ?_
  refine mv rfl rfl (sx_call rfl rfl Tryd.call21 (c_l02Trim hs_s1 (by assumption) (by first | omega | (simp only [List.length_append, List.length_set, List.length_replicate, List.length_cons, List.length_nil] at *; omega))) (fun v46 w46 p46 => ?_))
  obtain ⟨s46, rfl, os_46, c46⟩ := p46
  have zw46 := c46.size
  refine av rfl rfl (av rfl rfl (wl_nil (q_n (k45 _ _ ?_))))
  refine sx_retc ?_
  refine sx_ret2 Tryd.results9 rfl rfl ?_
  have hvl := limbs_end (by omega) hv
  have hK : tnK s = true := tnK_ok (by simp_all) (by omega) (by omega)
  rw [tnV_ok hK, hK, ← hvl]
  have q47 := Chg.step (l := 0) (h := 0) (Chg.zero (l := 0) (h := 0) (c4.t cs9)) cwl12 (by omega)
  have q48 := Chg.step (l := 0) (h := 0) q47 c46 (by omega)
  exact ⟨_, rfl, (Own.mono os_46 (by omega) (by omega)), q48⟩
 refine sx_guardF rfl rfl rfl rfl rfl rfl ?_
 refine sx_guardF rfl rfl rfl rfl rfl rfl ?_
 refine sx_guardF rfl rfl rfl rfl rfl rfl ?_
 refine sx_guardT rfl rfl rfl ?_
 refine sp rfl (px_pick rfl rfl) ?_
 refine sp rfl (px_pick rfl rfl) ?_
 refine wl_nil (q_n (k3 _ _ ?_))
 refine sx_sub (Sub.c 0 rfl (.c 2 rfl (.c 3 rfl (.c 26 rfl .nil)))) ?_
 refine sx_condF rfl ?_
 refine sx_skip ?_
 refine q_n (k2 _ _ ?_)
 refine sx_seq fun K49 k49 => sx_region ?_
 refine sx_lit0 rfl xelt22 (fun s50 ws50 ss50 fs50 cs50 => ?_)
 have zws50 := cs50.size
 refine av rfl rfl (wl_nil (q_n (k49 _ _ ?_)))
 refine sx_seq fun K51 k51 => ?_
 refine sx_seq fun K52 k52 => sx_region ?_
 refine mv rfl rfl (sp rfl (px_lenS rfl Tryd.underlying9) ?_)
 refine av rfl rfl (wl_nil (q_n (k52 _ _ ?_)))
 refine sx_block ?_
 refine sx_loop (fun mm aa w' => ∃ (s1 : Value) (os : List Int) (k : Nat), Agr 58 [(0, .string s), (4, s1), (5, .int .i64 (↑s.size - 9 * (k : Int)))] aa ∧ Chg w4.heap.size ws50.heap.size ws50 w' ∧ Own w' w4.heap.size w'.heap.size s1 intT os.length 1 (os.map (Value.int .i64)) ∧ (mm = s.size + 9 - 9 * k) ∧ (os.length = k) ∧ (Lm os) ∧ (9 * k ≤ s.size + 8) ∧ (vl os + Bs ^ k * dval (s.data.toList.take (s.size - 9 * k)) = dval s.data.toList)) (_) (fun a ha => ⟨s50, [], 0, ha.sub (Sub.c 0 rfl (.c 4 rfl (.c 5 (look_int (t := 5) rfl (by first | omega | (simp; done) | simp [dval])) .nil))), Chg.refl _ _ _, (fs50.mono (by omega) (by omega)), rfl, rfl, Lm.nil, by omega, by rw [show s.size - 9 * 0 = s.data.toList.length by rw [sz_list]; omega, List.take_length]; simp [vl]⟩) ?_
 rintro mm aa wl53 ⟨s1, os, k, hAwl53, cwl53, hs_s1, hm, hos, hlm, hk, hv⟩
 refine (show cw Tryd.prog 58 _ _ _ wl53 from ?_) aa hAwl53
 clear hAwl53
 have zwl53 := cwl53.size
 refine sx_seq fun K54 k54 => ?_
 refine sx_seq fun K55 k55 => sx_region ?_
 refine mv rfl rfl (sp rfl (px_gt rfl rfl) ?_)
 refine wl_nil (q_n (k55 _ _ ?_))
 refine sx_condP rfl (fun h184 => ?_) (fun h184 => ?_)
 ·
  refine sx_skip ?_
  refine q_n (k54 _ _ ?_)
  refine sx_seq fun K56 k56 => ?_
  refine sx_block ?_
  refine sx_seq fun K57 k57 => sx_region ?_
  refine mv rfl rfl (sp rfl (px_sub rfl rfl (by omega)) ?_)
  refine av rfl rfl (wl_nil (q_n (k57 _ _ ?_)))
  refine sx_seq fun K58 k58 => ?_
  refine sx_seq fun K59 k59 => sx_region ?_
  refine mv rfl rfl (sp rfl (px_lt rfl rfl) ?_)
  refine wl_nil (q_n (k59 _ _ ?_))
  refine sx_condP rfl (fun h186 => ?_) (fun h186 => ?_)
  ·
   refine sx_region ?_
   refine av rfl rfl (wl_nil (q_n (k58 _ _ ?_)))
   refine sx_seq fun K60 k60 => sx_region ?_
   refine av rfl rfl (wl_nil (q_n (k60 _ _ ?_)))
   refine sx_seq fun K61 k61 => ?_
   refine sx_seq fun K62 k62 => sx_region ?_
   refine mv rfl rfl (av rfl rfl (wl_nil (q_n (k62 _ _ ?_))))
   refine sx_block ?_
   refine sx_loop (fun mm aa w' => ∃ (j : Nat), Agr 58 [(0, .string s), (4, s1), (5, .int .i64 (↑s.size - 9 * (k : Int))), (7, .int .i64 ((dval ((s.data.toList.drop (s.size - 9 * k - 9)).take j) : Nat) : Int)), (8, .int .i64 (((s.size - 9 * k - 9) + j : Nat) : Int))] aa ∧ Chg 0 0 wl53 w' ∧ (mm = s.size - 9 * k - ((s.size - 9 * k - 9) + j)) ∧ ((s.size - 9 * k - 9) + j ≤ s.size - 9 * k)) (_) (fun a ha => ⟨0, ha.sub (Sub.c 0 rfl (.c 4 rfl (.c 5 rfl (.c 7 (look_int (t := 7) rfl (by first | omega | (simp; done) | simp [dval])) (.c 8 (look_int (t := 8) rfl (by first | omega | (simp; done) | simp [dval])) .nil))))), Chg.refl _ _ _, rfl, by omega⟩) ?_
   rintro mm aa wl63 ⟨j, hAwl63, cwl63, hm, hj⟩
   refine (show cw Tryd.prog 58 _ _ _ wl63 from ?_) aa hAwl63
   clear hAwl63
   have zwl63 := cwl63.size
   have hn9 := dval9 hD (s.size - 9 * k - 9) j (by omega)
   refine sx_seq fun K64 k64 => ?_
   refine sx_seq fun K65 k65 => sx_region ?_
   refine mv rfl rfl (mv rfl rfl (sp rfl (px_lt rfl rfl) ?_))
   refine wl_nil (q_n (k65 _ _ ?_))
   refine sx_condP rfl (fun h190 => ?_) (fun h190 => ?_)
   ·
    have hb8 := dgs_at hD (j := (s.size - 9 * k - 9) + j) (by omega)
    have hbs := dval_byte hD (f := (s.size - 9 * k - 9)) (j := j) (by omega)
    refine sx_skip ?_
    refine q_n (k64 _ _ ?_)
    refine sx_seq fun K66 k66 => ?_
    refine sx_block ?_
    refine sx_region ?_
    refine mv rfl rfl (sp rfl (px_mul rfl rfl (by omega)) ?_)
    refine mv rfl rfl (mv rfl rfl (sp rfl (px_indexS (j := ((s.size - 9 * k - 9) + j)) rfl rfl (by omega) Tryd.underlying9 (by omega)) ?_))
    refine sp rfl (px_conv8 Tryd.underlying5 Tryd.underlying3 rfl (by omega)) ?_
    refine sp rfl (px_add rfl rfl (by omega)) ?_
    refine sp rfl (px_sub rfl rfl (by omega)) ?_
    refine av rfl rfl (wl_nil ?_)
    refine q_bn (q_n (k66 _ _ ?_))
    refine sx_sub (Sub.c 0 rfl (.c 4 rfl (.c 5 rfl (.c 7 rfl (.c 8 rfl .nil))))) ?_
    refine sx_region ?_
    refine mv rfl rfl (sp rfl (px_add rfl rfl (by omega)) ?_)
    refine av rfl rfl (wl_nil ?_)
    exact fun a ha => ⟨_, by omega, (j + 1), ha.sub (Sub.c 0 rfl (.c 4 rfl (.c 5 rfl (.c 7 (look_int (t := 7) rfl (by first | omega | (simp; done) | simp [dval])) (.c 8 (look_int (t := 8) rfl (by first | omega | (simp; done) | simp [dval])) .nil))))), cwl63, rfl, by omega⟩
   refine sx_exit ?_
   refine q_e (q_e (q_bx (q_n (k61 _ _ ?_))))
   refine sx_region ?_
   refine mv rfl rfl (mv rfl rfl ?_)
   refine sx_lit1 rfl xelt22 rfl rfl (fun s67 ws67 ss67 fs67 cs67 => ?_)
   have ns67 := Own.norm (f := (Value.int .i64)) (zs := [((dval ((s.data.toList.drop (s.size - 9 * k - 9)).take j) : Nat) : Int)]) fs67
   have zws67 := cs67.size
   have f69 := hs_s1.ext cwl63
   have f70 := f69.ext cs67
   refine sx_append rfl xelt22 rfl rfl f70 ns67.sv one_int (by omega) (by simp only [List.length_cons, List.length_nil]; omega) (by unfold maxLen; simp only [List.length_cons, List.length_nil]; omega) (fun a68 w68 fw68 cw68 => ?_)
   have nw68 := Own.app (f := (Value.int .i64)) (a := os) (b := [((dval ((s.data.toList.drop (s.size - 9 * k - 9)).take j) : Nat) : Int)]) fw68
   have zw68 := cw68.size
   refine av rfl rfl (wl_nil ?_)
   refine q_bn (q_n (k56 _ _ ?_))
   refine sx_region ?_
   refine mv rfl rfl (sp rfl (px_sub rfl rfl (by omega)) ?_)
   refine av rfl rfl (wl_nil ?_)
   have q71 := Chg.step (l := w4.heap.size) (h := ws50.heap.size) cwl53 (cwl63.t cs67) (by omega)
   have q72 := Chg.step (l := w4.heap.size) (h := ws50.heap.size) q71 cw68 (by omega)
   have hX := dval9 hD (s.size - 9 * k - 9) j (by omega)
   exact fun a ha => ⟨_, by omega, a68, (os ++ ([((dval ((s.data.toList.drop (s.size - 9 * k - 9)).take j) : Nat) : Int)])), (k + 1), ha.sub (Sub.c 0 rfl (.c 4 rfl (.c 5 (look_int (t := 5) rfl (by first | omega | (simp; done) | simp [dval])) .nil))), q72, (nw68.mono (by omega) (by omega)), rfl, by simp [hos], hlm.append (Lm.single (by omega) (by omega)), by omega, limbs_next hos rfl (by omega) (by omega) hv⟩
  refine sx_skip ?_
  refine q_n (k58 _ _ ?_)
  refine sx_seq fun K73 k73 => sx_region ?_
  refine av rfl rfl (wl_nil (q_n (k73 _ _ ?_)))
  refine sx_seq fun K74 k74 => ?_
  refine sx_seq fun K75 k75 => sx_region ?_
  refine mv rfl rfl (av rfl rfl (wl_nil (q_n (k75 _ _ ?_))))
  refine sx_block ?_
  refine sx_loop (fun mm aa w' => ∃ (j : Nat), Agr 58 [(0, .string s), (4, s1), (5, .int .i64 (↑s.size - 9 * (k : Int))), (7, .int .i64 ((dval ((s.data.toList.drop (s.size - 9 * k - 9)).take j) : Nat) : Int)), (8, .int .i64 (((s.size - 9 * k - 9) + j : Nat) : Int))] aa ∧ Chg 0 0 wl53 w' ∧ (mm = s.size - 9 * k - ((s.size - 9 * k - 9) + j)) ∧ ((s.size - 9 * k - 9) + j ≤ s.size - 9 * k)) (_) (fun a ha => ⟨0, ha.sub (Sub.c 0 rfl (.c 4 rfl (.c 5 rfl (.c 7 (look_int (t := 7) rfl (by first | omega | (simp; done) | simp [dval])) (.c 8 (look_int (t := 8) rfl (by first | omega | (simp; done) | simp [dval])) .nil))))), Chg.refl _ _ _, rfl, by omega⟩) ?_
  rintro mm aa wl76 ⟨j, hAwl76, cwl76, hm, hj⟩
  refine (show cw Tryd.prog 58 _ _ _ wl76 from ?_) aa hAwl76
  clear hAwl76
  have zwl76 := cwl76.size
  have hn9 := dval9 hD (s.size - 9 * k - 9) j (by omega)
  refine sx_seq fun K77 k77 => ?_
  refine sx_seq fun K78 k78 => sx_region ?_
  refine mv rfl rfl (mv rfl rfl (sp rfl (px_lt rfl rfl) ?_))
  refine wl_nil (q_n (k78 _ _ ?_))
  refine sx_condP rfl (fun h190 => ?_) (fun h190 => ?_)
  ·
   have hb8 := dgs_at hD (j := (s.size - 9 * k - 9) + j) (by omega)
   have hbs := dval_byte hD (f := (s.size - 9 * k - 9)) (j := j) (by omega)
   refine sx_skip ?_
   refine q_n (k77 _ _ ?_)
   refine sx_seq fun K79 k79 => ?_
   refine sx_block ?_
   refine sx_region ?_
   refine mv rfl rfl (sp rfl (px_mul rfl rfl (by omega)) ?_)
   refine mv rfl rfl (mv rfl rfl (sp rfl (px_indexS (j := ((s.size - 9 * k - 9) + j)) rfl rfl (by omega) Tryd.underlying9 (by omega)) ?_))
   refine sp rfl (px_conv8 Tryd.underlying5 Tryd.underlying3 rfl (by omega)) ?_
   refine sp rfl (px_add rfl rfl (by omega)) ?_
   refine sp rfl (px_sub rfl rfl (by omega)) ?_
   refine av rfl rfl (wl_nil ?_)
   refine q_bn (q_n (k79 _ _ ?_))
   refine sx_sub (Sub.c 0 rfl (.c 4 rfl (.c 5 rfl (.c 7 rfl (.c 8 rfl .nil))))) ?_
   refine sx_region ?_
   refine mv rfl rfl (sp rfl (px_add rfl rfl (by omega)) ?_)
   refine av rfl rfl (wl_nil ?_)
   exact fun a ha => ⟨_, by omega, (j + 1), ha.sub (Sub.c 0 rfl (.c 4 rfl (.c 5 rfl (.c 7 (look_int (t := 7) rfl (by first | omega | (simp; done) | simp [dval])) (.c 8 (look_int (t := 8) rfl (by first | omega | (simp; done) | simp [dval])) .nil))))), cwl76, rfl, by omega⟩
  refine sx_exit ?_
  refine q_e (q_e (q_bx (q_n (k74 _ _ ?_))))
  refine sx_region ?_
  refine mv rfl rfl (mv rfl rfl ?_)
  refine sx_lit1 rfl xelt22 rfl rfl (fun s80 ws80 ss80 fs80 cs80 => ?_)
  have ns80 := Own.norm (f := (Value.int .i64)) (zs := [((dval ((s.data.toList.drop (s.size - 9 * k - 9)).take j) : Nat) : Int)]) fs80
  have zws80 := cs80.size
  have f82 := hs_s1.ext cwl76
  have f83 := f82.ext cs80
  refine sx_append rfl xelt22 rfl rfl f83 ns80.sv one_int (by omega) (by simp only [List.length_cons, List.length_nil]; omega) (by unfold maxLen; simp only [List.length_cons, List.length_nil]; omega) (fun a81 w81 fw81 cw81 => ?_)
  have nw81 := Own.app (f := (Value.int .i64)) (a := os) (b := [((dval ((s.data.toList.drop (s.size - 9 * k - 9)).take j) : Nat) : Int)]) fw81
  have zw81 := cw81.size
  refine av rfl rfl (wl_nil ?_)
  refine q_bn (q_n (k56 _ _ ?_))
  refine sx_region ?_
  refine mv rfl rfl (sp rfl (px_sub rfl rfl (by omega)) ?_)
  refine av rfl rfl (wl_nil ?_)
  have q84 := Chg.step (l := w4.heap.size) (h := ws50.heap.size) cwl53 (cwl76.t cs80) (by omega)
  have q85 := Chg.step (l := w4.heap.size) (h := ws50.heap.size) q84 cw81 (by omega)
  have hX := dval9 hD (s.size - 9 * k - 9) j (by omega)
  exact fun a ha => ⟨_, by omega, a81, (os ++ ([((dval ((s.data.toList.drop (s.size - 9 * k - 9)).take j) : Nat) : Int)])), (k + 1), ha.sub (Sub.c 0 rfl (.c 4 rfl (.c 5 (look_int (t := 5) rfl (by first | omega | (simp; done) | simp [dval])) .nil))), q85, (nw81.mono (by omega) (by omega)), rfl, by simp [hos], hlm.append (Lm.single (by omega) (by omega)), by omega, limbs_next hos rfl (by omega) (by omega) hv⟩
 refine sx_exit ?_
 refine q_e (q_e (q_bx (q_n (k51 _ _ ?_))))
 refine sx_seq fun K86 k86 => sx_region ?_
 refine mv rfl rfl (sx_call rfl rfl Tryd.call21 (c_l02Trim hs_s1 (by assumption) (by first | omega | (simp only [List.length_append, List.length_set, List.length_replicate, List.length_cons, List.length_nil] at *; omega))) (fun v87 w87 p87 => ?_))
 obtain ⟨s87, rfl, os_87, c87⟩ := p87
 have zw87 := c87.size
 refine av rfl rfl (av rfl rfl (wl_nil (q_n (k86 _ _ ?_))))
 refine sx_retc ?_
 refine sx_ret2 Tryd.results9 rfl rfl ?_
 have hvl := limbs_end (by omega) hv
 have hK : tnK s = true := tnK_ok (by simp_all) (by omega) (by omega)
 rw [tnV_ok hK, hK, ← hvl]
 have q88 := Chg.step (l := 0) (h := 0) (Chg.zero (l := 0) (h := 0) (c4.t cs50)) cwl53 (by omega)
 have q89 := Chg.step (l := 0) (h := 0) q88 c87 (by omega)
 exact ⟨_, rfl, (Own.mono os_87 (by omega) (by omega)), q89⟩

theorem c_l01In {w : World} {n : Int} {lo : Int} {hi : Int} :
  Ret Tryd.prog 37 [.int .i64 n, .int .i64 lo, .int .i64 hi] w fun v w' => v = .bool (decide (lo ≤ n ∧ n ≤ hi)) ∧ Chg 0 0 w w' := by
 refine sx_enter Tryd.func37 rfl Tryd.ntmps37 (nbl rfl) ?_
 refine sx_seq fun K1 k1 => sx_region ?_
 refine av rfl rfl (wl_nil (q_n (k1 _ _ ?_)))
 refine sx_seq fun K2 k2 => sx_region ?_
 refine mv rfl rfl (mv rfl rfl (sp rfl (px_ge rfl rfl) ?_))
 refine mv rfl rfl ?_
 refine sx_tmpP (t := 10) rfl (fun h5 => ?_) (fun h5 => ?_)
 ·
  refine sx_guardT rfl rfl rfl ?_
  refine mv rfl rfl ?_
  refine sx_guardT rfl rfl rfl ?_
  refine mv rfl rfl ?_
  refine sx_guardT rfl rfl rfl ?_
  refine sp rfl (px_le rfl rfl) ?_
  refine sp rfl (px_pick rfl rfl) ?_
  refine av rfl rfl (wl_nil (q_n (k2 _ _ ?_)))
  refine sx_retc ?_
  refine sx_ret1 Tryd.results37 rfl ?_
  exact ⟨(by first | exact bIff (by omega) | exact bFalse (by omega) | exact bTrue (by omega)), (Chg.refl 0 0 _)⟩
 refine sx_guardF rfl rfl rfl rfl rfl rfl ?_
 refine sx_guardF rfl rfl rfl rfl rfl rfl ?_
 refine sx_guardF rfl rfl rfl rfl rfl rfl ?_
 refine sp rfl (px_pick rfl rfl) ?_
 refine av rfl rfl (wl_nil (q_n (k2 _ _ ?_)))
 refine sx_retc ?_
 refine sx_ret1 Tryd.results37 rfl ?_
 exact ⟨(by first | exact bIff (by omega) | exact bFalse (by omega) | exact bTrue (by omega)), (Chg.refl 0 0 _)⟩

theorem c_sNatOk {w : World} {va : Value} {lva uva : Nat} {zs : List Int} (hva : Sl w lva uva va (zs)) (h63 : zs.length ≤ 4611686018427387904) :
  Ret Tryd.prog 38 [va] w fun v w' => v = .bool (decide (NOk zs)) ∧ Chg 0 0 w w' := by
 have hva0 := hva.fit
 refine sx_enter Tryd.func38 rfl Tryd.ntmps38 (nbl rfl) ?_
 refine sx_seq fun K1 k1 => sx_region ?_
 refine av rfl rfl (wl_nil (q_n (k1 _ _ ?_)))
 refine sx_seq fun K2 k2 => ?_
 refine sx_seq fun K3 k3 => sx_region ?_
 refine mv rfl rfl (sp rfl (px_len rfl Tryd.underlying22 hva0) ?_)
 refine mv rfl rfl (wl_nil (q_n (k3 _ _ ?_)))
 refine sx_block ?_
 refine sx_loop (fun mm aa w' => ∃ (k : Nat), Agr 32 [(0, va), (5, va), (6, .int .i64 ↑zs.length), (7, .int .i64 ↑k)] aa ∧ Chg 0 0 w w' ∧ (mm = zs.length - k) ∧ (k ≤ zs.length) ∧ (∀ i, i < k → 0 ≤ zs.getD i 0 ∧ zs.getD i 0 < 1000000000)) (_) (fun a ha => ⟨0, ha.sub (Sub.c 0 rfl (.c 5 rfl (.c 6 (look_int (t := 6) rfl (by first | omega | simp)) (.c 7 (look_int (t := 7) rfl (by first | omega | simp)) .nil)))), Chg.refl _ _ _, rfl, by omega, fun i h => by omega⟩) ?_
 rintro mm aa wl4 ⟨k, hAwl4, cwl4, hm, hk, hall⟩
 refine (show cw Tryd.prog 32 _ _ _ wl4 from ?_) aa hAwl4
 clear hAwl4
 have zwl4 := cwl4.size
 refine sx_seq fun K5 k5 => sx_region ?_
 refine sp rfl (px_lt rfl rfl) ?_
 refine wl_nil (q_n (k5 _ _ ?_))
 refine sx_seq fun K6 k6 => ?_
 refine sx_condP rfl (fun h7 => ?_) (fun h7 => ?_)
 ·
  refine sx_skip ?_
  refine q_n (k6 _ _ ?_)
  refine sx_seq fun K7 k7 => ?_
  refine sx_block ?_
  refine sx_seq fun K8 k8 => sx_region ?_
  have f9 := hva0.ext cwl4
  refine sp rfl (px_index1 (j := k) rfl rfl (by omega) Tryd.underlying22 Tryd.sizeOf3 f9 (by omega)) ?_
  refine sp rfl (px_load rfl (f9.load1 (at_int (by omega)) Tryd.isAgg3)) ?_
  refine av rfl rfl (wl_nil (q_n (k8 _ _ ?_)))
  refine sx_seq fun K10 k10 => sx_region ?_
  refine mv rfl rfl (sx_call rfl rfl Tryd.call37 (c_l01In) (fun v11 w11 p11 => ?_))
  obtain ⟨rfl, c11⟩ := p11
  have zw11 := c11.size
  refine sp rfl (px_notP rfl) ?_
  refine wl_nil (q_n (k10 _ _ ?_))
  refine sx_condP rfl (fun h8 => ?_) (fun h8 => ?_)
  ·
   refine sx_seq fun K12 k12 => sx_region ?_
   refine av rfl rfl (wl_nil (q_n (k12 _ _ ?_)))
   refine sx_retc ?_
   refine q_br (q_r (q_r (q_br (q_r (sx_ret1 Tryd.results38 rfl ?_)))))
   exact ⟨bFalse (fun h => by have h1 := h.1.getD k; omega), (cwl4.t c11)⟩
  refine sx_skip ?_
  refine q_bn (q_n (k7 _ _ ?_))
  refine sx_region ?_
  refine sp rfl (px_add rfl rfl (by omega)) ?_
  refine mv rfl rfl (wl_nil ?_)
  exact fun a ha => ⟨_, by omega, (k + 1), ha.sub (Sub.c 0 rfl (.c 5 rfl (.c 6 rfl (.c 7 (look_int (t := 7) rfl (by first | omega | simp)) .nil)))), (cwl4.t c11), rfl, by omega, lm_succ hall (by omega)⟩
 refine sx_exit ?_
 refine q_e (q_e (q_bx (q_n (k2 _ _ ?_))))
 refine sx_seq fun K13 k13 => ?_
 have ek : k = zs.length := by omega
 have hz : Lm zs := lm_mem (by rw [← ek]; exact hall)
 refine sx_region ?_
 refine mv rfl rfl ?_
 have f14 := hva0.ext cwl4
 refine sp rfl (px_len rfl Tryd.underlying22 f14) ?_
 refine sp rfl (px_le rfl rfl) ?_
 refine mv rfl rfl ?_
 refine sx_tmpP (t := 18) rfl (fun h12 => ?_) (fun h12 => ?_)
 ·
  refine sx_guardT rfl rfl rfl ?_
  refine mv rfl rfl ?_
  refine sx_guardT rfl rfl rfl ?_
  refine sp rfl (px_len rfl Tryd.underlying22 f14) ?_
  refine sx_guardT rfl rfl rfl ?_
  refine sp rfl (px_eq rfl rfl) ?_
  refine sx_guardT rfl rfl rfl ?_
  refine mv rfl rfl ?_
  refine sx_tmpP (t := 22) rfl (fun h12x1 => ?_) (fun h12x1 => ?_)
  ·
   refine sx_guardF rfl rfl rfl rfl rfl rfl ?_
   refine sx_guardF rfl rfl rfl rfl rfl rfl ?_
   refine sx_guardF rfl rfl rfl rfl rfl rfl ?_
   refine sx_guardF rfl rfl rfl rfl rfl rfl ?_
   refine sx_guardF rfl rfl rfl rfl rfl rfl ?_
   refine sx_guardF rfl rfl rfl rfl rfl rfl ?_
   refine sx_guardF rfl rfl rfl rfl rfl rfl ?_
   refine sx_guardT rfl rfl rfl ?_
   refine sp rfl (px_pick rfl rfl) ?_
   refine sp rfl (px_pick rfl rfl) ?_
   refine av rfl rfl (wl_nil (q_n (k13 _ _ ?_)))
   refine sx_sub (Sub.c 2 rfl .nil) ?_
   refine sx_retc ?_
   refine sx_ret1 Tryd.results38 rfl ?_
   exact ⟨(by first | exact bFalse (fun h => by have h1 := h.2.1; omega) | exact bTrue (NOk_mk hz (by omega) (.inl (by omega))) | exact bIff (NOk_iff hz (by omega) (by omega))), cwl4⟩
  refine sx_guardT rfl rfl rfl ?_
  refine mv rfl rfl ?_
  refine sx_guardT rfl rfl rfl ?_
  refine mv rfl rfl ?_
  refine sx_guardT rfl rfl rfl ?_
  refine sp rfl (px_len rfl Tryd.underlying22 f14) ?_
  refine sx_guardT rfl rfl rfl ?_
  refine sp rfl (px_sub rfl rfl (by omega)) ?_
  refine sx_guardT rfl rfl rfl ?_
  refine sp rfl (px_index1 (j := (zs.length - 1)) rfl rfl (by omega) Tryd.underlying22 Tryd.sizeOf3 f14 (by omega)) ?_
  refine sx_guardT rfl rfl rfl ?_
  refine sp rfl (px_load rfl (f14.load1 (at_int (by omega)) Tryd.isAgg3)) ?_
  refine sx_guardT rfl rfl rfl ?_
  refine sp rfl (px_ne rfl rfl) ?_
  refine sx_guardT rfl rfl rfl ?_
  refine sp rfl (px_pick rfl rfl) ?_
  refine sp rfl (px_pick rfl rfl) ?_
  refine av rfl rfl (wl_nil (q_n (k13 _ _ ?_)))
  refine sx_sub (Sub.c 2 rfl .nil) ?_
  refine sx_retc ?_
  refine sx_ret1 Tryd.results38 rfl ?_
  exact ⟨(by first | exact bFalse (fun h => by have h1 := h.2.1; omega) | exact bTrue (NOk_mk hz (by omega) (.inl (by omega))) | exact bIff (NOk_iff hz (by omega) (by omega))), cwl4⟩
 refine sx_guardF rfl rfl rfl rfl rfl rfl ?_
 refine sx_guardF rfl rfl rfl rfl rfl rfl ?_
 refine sx_guardF rfl rfl rfl rfl rfl rfl ?_
 refine sx_guardF rfl rfl rfl rfl rfl rfl ?_
 refine sx_guardFU rfl rfl rfl rfl rfl ?_
 refine sx_guardFU rfl rfl rfl rfl rfl ?_
 refine sx_guardFU rfl rfl rfl rfl rfl ?_
 refine sx_guardFU rfl rfl rfl rfl rfl ?_
 refine sx_guardFU rfl rfl rfl rfl rfl ?_
 refine sx_guardFU rfl rfl rfl rfl rfl ?_
 refine sx_guardFU rfl rfl rfl rfl rfl ?_
 refine sx_guardF rfl rfl rfl rfl rfl rfl ?_
 refine sp rfl (px_pick rfl rfl) ?_
 refine av rfl rfl (wl_nil (q_n (k13 _ _ ?_)))
 refine sx_sub (Sub.c 2 rfl .nil) ?_
 refine sx_retc ?_
 refine sx_ret1 Tryd.results38 rfl ?_
 exact ⟨(by first | exact bFalse (fun h => by have h1 := h.2.1; omega) | exact bTrue (NOk_mk hz (by omega) (.inl (by omega))) | exact bIff (NOk_iff hz (by omega) (by omega))), cwl4⟩

theorem c_sIntOk {w : World} {n1 : Bool} {v1 : Value} {lv1 uv1 : Nat} {z1 : List Int} (hv1 : Sl w lv1 uv1 v1 (z1)) (h63 : z1.length ≤ 4611686018427387904) :
  Ret Tryd.prog 36 [.agg #[.bool n1, v1]] w fun v w' => v = .bool (decide (IOk n1 z1)) ∧ Chg 0 0 w w' := by
 have hv10 := hv1.fit
 refine sx_enter Tryd.func36 rfl Tryd.ntmps36 (nbl rfl) ?_
 refine sx_seq fun K1 k1 => sx_region ?_
 refine sx_box [.bool n1, v1] rfl rfl rfl (fun b2 w3 eb2 sb2 fb2 cb2 => ?_)
 have zw3 := cb2.size
 refine av rfl rfl (wl_nil (q_n (k1 _ _ ?_)))
 refine sx_seq fun K4 k4 => sx_region ?_
 refine sp rfl (px_field rfl xfld24x1) ?_
 refine sp rfl (px_load rfl (fb2.load1 rfl Tryd.isAgg22)) ?_
 have f5 := hv10.ext cb2
 refine sx_call rfl rfl Tryd.call38 (c_sNatOk f5 (by omega)) (fun v6 w6 p6 => ?_)
 obtain ⟨rfl, c6⟩ := p6
 have zw6 := c6.size
 refine mv rfl rfl ?_
 refine sx_tmpP (t := 6) rfl (fun h6 => ?_) (fun h6 => ?_)
 ·
  refine sx_guardT rfl rfl rfl ?_
  refine sp rfl (px_field rfl xfld24x0) ?_
  refine sx_guardT rfl rfl rfl ?_
  have f7 := fb2.ext c6
  refine sp rfl (px_load rfl (f7.load1 rfl Tryd.isAgg4)) ?_
  refine sx_guardT rfl rfl rfl ?_
  refine sp rfl (px_not rfl) ?_
  refine sx_guardT rfl rfl rfl ?_
  refine mv rfl rfl ?_
  refine sx_tmpB (t := 10) rfl (fun h6x1 => ?_) (fun h6x1 => ?_)
  ·
   refine sx_guardF rfl rfl rfl rfl rfl rfl ?_
   refine sx_guardF rfl rfl rfl rfl rfl rfl ?_
   refine sx_guardF rfl rfl rfl rfl rfl rfl ?_
   refine sx_guardF rfl rfl rfl rfl rfl rfl ?_
   refine sx_guardT rfl rfl rfl ?_
   refine sp rfl (px_pick rfl rfl) ?_
   refine sp rfl (px_pick rfl rfl) ?_
   refine av rfl rfl (wl_nil (q_n (k4 _ _ ?_)))
   refine sx_sub (Sub.c 2 rfl .nil) ?_
   refine sx_retc ?_
   refine sx_ret1 Tryd.results36 rfl ?_
   exact ⟨(by first | exact bTrue (by grind [IOk]) | exact bFalse (by grind [IOk]) | exact bIff (by grind [IOk])), (cb2.t c6)⟩
  refine sx_guardT rfl rfl rfl ?_
  refine sp rfl (px_field rfl xfld24x1) ?_
  refine sx_guardT rfl rfl rfl ?_
  refine sp rfl (px_load rfl (f7.load1 rfl Tryd.isAgg22)) ?_
  refine sx_guardT rfl rfl rfl ?_
  have f8 := f5.ext c6
  refine sp rfl (px_len rfl Tryd.underlying22 f8) ?_
  refine sx_guardT rfl rfl rfl ?_
  refine sp rfl (px_gt rfl rfl) ?_
  refine sx_guardT rfl rfl rfl ?_
  refine sp rfl (px_pick rfl rfl) ?_
  refine sp rfl (px_pick rfl rfl) ?_
  refine av rfl rfl (wl_nil (q_n (k4 _ _ ?_)))
  refine sx_sub (Sub.c 2 rfl .nil) ?_
  refine sx_retc ?_
  refine sx_ret1 Tryd.results36 rfl ?_
  exact ⟨(by first | exact bTrue (by grind [IOk]) | exact bFalse (by grind [IOk]) | exact bIff (by grind [IOk])), (cb2.t c6)⟩
 refine sx_guardF rfl rfl rfl rfl rfl rfl ?_
 refine sx_guardF rfl rfl rfl rfl rfl rfl ?_
 refine sx_guardF rfl rfl rfl rfl rfl rfl ?_
 refine sx_guardF rfl rfl rfl rfl rfl rfl ?_
 refine sx_guardFU rfl rfl rfl rfl rfl ?_
 refine sx_guardFU rfl rfl rfl rfl rfl ?_
 refine sx_guardFU rfl rfl rfl rfl rfl ?_
 refine sx_guardFU rfl rfl rfl rfl rfl ?_
 refine sx_guardF rfl rfl rfl rfl rfl rfl ?_
 refine sp rfl (px_pick rfl rfl) ?_
 refine av rfl rfl (wl_nil (q_n (k4 _ _ ?_)))
 refine sx_sub (Sub.c 2 rfl .nil) ?_
 refine sx_retc ?_
 refine sx_ret1 Tryd.results36 rfl ?_
 exact ⟨(by first | exact bTrue (by grind [IOk]) | exact bFalse (by grind [IOk]) | exact bIff (by grind [IOk])), (cb2.t c6)⟩

theorem c_sDecOk {w : World} {n1 : Bool} {v1 : Value} {lv1 uv1 : Nat} {z1 : List Int} {p1 : Int} (hv1 : Sl w lv1 uv1 v1 (z1)) (h63 : z1.length ≤ 4611686018427387904) :
  Ret Tryd.prog 22 [.agg #[.bool n1, v1, .int .i64 p1]] w fun v w' => v = .bool (decide (DOk n1 z1 p1)) ∧ Chg 0 0 w w' := by
 have hv10 := hv1.fit
 refine sx_enter Tryd.func22 rfl Tryd.ntmps22 (nbl rfl) ?_
 refine sx_seq fun K1 k1 => sx_region ?_
 refine sx_box [.bool n1, v1, .int .i64 p1] rfl rfl rfl (fun b2 w3 eb2 sb2 fb2 cb2 => ?_)
 have zw3 := cb2.size
 refine av rfl rfl (wl_nil (q_n (k1 _ _ ?_)))
 refine sx_seq fun K4 k4 => sx_region ?_
 refine sp rfl (px_field rfl xfld26x0) ?_
 refine sp rfl (px_load rfl (fb2.loadA (vs := [.bool n1, v1]) (look_lit rfl) Tryd.isAgg24 Tryd.sizeOf24)) ?_
 have f5 := hv10.ext cb2
 refine sx_call rfl rfl Tryd.call36 (c_sIntOk f5 (by omega)) (fun v6 w6 p6 => ?_)
 obtain ⟨rfl, c6⟩ := p6
 have zw6 := c6.size
 refine mv rfl rfl ?_
 refine sx_tmpP (t := 6) rfl (fun h7 => ?_) (fun h7 => ?_)
 ·
  refine sx_guardT rfl rfl rfl ?_
  refine sp rfl (px_field rfl xfld26x0) ?_
  refine sx_guardT rfl rfl rfl ?_
  refine sp rfl (px_field rfl xfld24x1) ?_
  refine sx_guardT rfl rfl rfl ?_
  have f7 := fb2.ext c6
  refine sp rfl (px_load rfl (f7.load1 rfl Tryd.isAgg22)) ?_
  refine sx_guardT rfl rfl rfl ?_
  have f8 := f5.ext c6
  refine sp rfl (px_len rfl Tryd.underlying22 f8) ?_
  refine sx_guardT rfl rfl rfl ?_
  refine sp rfl (px_le rfl rfl) ?_
  refine sp rfl (px_pick rfl rfl) ?_
  refine mv rfl rfl ?_
  refine sx_tmpP (t := 13) rfl (fun h7x1 => ?_) (fun h7x1 => ?_)
  ·
   refine sx_guardT rfl rfl rfl ?_
   refine sp rfl (px_field rfl xfld26x1) ?_
   refine sx_guardT rfl rfl rfl ?_
   refine sp rfl (px_load rfl (f7.load1 rfl Tryd.isAgg3)) ?_
   refine sx_guardT rfl rfl rfl ?_
   refine sx_call rfl rfl Tryd.call37 (c_l01In) (fun v9 w9 p9 => ?_)
   obtain ⟨rfl, c9⟩ := p9
   have zw9 := c9.size
   refine sp rfl (px_pick rfl rfl) ?_
   refine av rfl rfl (wl_nil (q_n (k4 _ _ ?_)))
   refine sx_sub (Sub.c 2 rfl .nil) ?_
   refine sx_retc ?_
   refine sx_ret1 Tryd.results22 rfl ?_
   exact ⟨(by first | exact bTrue (by grind [DOk]) | exact bFalse (by grind [DOk]) | exact bIff (by grind [DOk])), ((cb2.t c6).t c9)⟩
  refine sx_guardF rfl rfl rfl rfl rfl rfl ?_
  refine sx_guardF rfl rfl rfl rfl rfl rfl ?_
  refine sx_guardF rfl rfl rfl rfl rfl rfl ?_
  refine sp rfl (px_pick rfl rfl) ?_
  refine av rfl rfl (wl_nil (q_n (k4 _ _ ?_)))
  refine sx_sub (Sub.c 2 rfl .nil) ?_
  refine sx_retc ?_
  refine sx_ret1 Tryd.results22 rfl ?_
  exact ⟨(by first | exact bTrue (by grind [DOk]) | exact bFalse (by grind [DOk]) | exact bIff (by grind [DOk])), (cb2.t c6)⟩
 refine sx_guardF rfl rfl rfl rfl rfl rfl ?_
 refine sx_guardF rfl rfl rfl rfl rfl rfl ?_
 refine sx_guardF rfl rfl rfl rfl rfl rfl ?_
 refine sx_guardF rfl rfl rfl rfl rfl rfl ?_
 refine sx_guardF rfl rfl rfl rfl rfl rfl ?_
 refine sp rfl (px_pick rfl rfl) ?_
 refine mv rfl rfl ?_
 refine sx_guardF rfl rfl rfl rfl rfl rfl ?_
 refine sx_guardF rfl rfl rfl rfl rfl rfl ?_
 refine sx_guardF rfl rfl rfl rfl rfl rfl ?_
 refine sp rfl (px_pick rfl rfl) ?_
 refine av rfl rfl (wl_nil (q_n (k4 _ _ ?_)))
 refine sx_sub (Sub.c 2 rfl .nil) ?_
 refine sx_retc ?_
 refine sx_ret1 Tryd.results22 rfl ?_
 exact ⟨(by first | exact bTrue (by grind [DOk]) | exact bFalse (by grind [DOk]) | exact bIff (by grind [DOk])), (cb2.t c6)⟩

theorem c_sIntText {w : World} {n : Int} (hn : 0 ≤ n ∧ n < 1000000000) :
  Ret Tryd.prog 39 [.int .i64 n] w fun v w' => v = .string (itx n) ∧ Chg 0 0 w w' := by
 refine sx_enter Tryd.func39 rfl Tryd.ntmps39 (nbl rfl) ?_
 refine sx_seq fun K1 k1 => sx_region ?_
 refine av rfl rfl (wl_nil (q_n (k1 _ _ ?_)))
 refine sx_seq fun K2 k2 => ?_
 refine sx_seq fun K3 k3 => sx_region ?_
 refine mv rfl rfl (sp rfl (px_lt rfl rfl) ?_)
 refine wl_nil (q_n (k3 _ _ ?_))
 have h9 : ¬ ((n : Int) < 0) := by omega
 refine sx_condPF rfl h9 ?_
 refine sx_skip ?_
 refine q_n (k2 _ _ ?_)
 refine sx_seq fun K4 k4 => sx_region ?_
 refine av rfl rfl (wl_nil (q_n (k4 _ _ ?_)))
 refine sx_seq fun K5 k5 => ?_
 refine sx_block ?_
 refine sx_loop (fun mm aa w' => ∃ (m : Int) (s : ByteArray), Agr 44 [(0, .int .i64 m), (3, .string s)] aa ∧ Chg 0 0 w w' ∧ (mm = m.toNat) ∧ (0 ≤ m ∧ m ≤ n) ∧ (Lib.decDigits n.toNat = Lib.decDigits m.toNat ++ s.data.toList) ∧ (↑s.size + m ≤ 1000000000)) (_) (fun a ha => ⟨n, ⟨#[]⟩, ha.sub (Sub.c 0 (look_int (t := 0) rfl (by first | omega | simp)) (.c 3 rfl .nil)), Chg.refl _ _ _, rfl, by omega, by simp, by have : (⟨#[]⟩ : ByteArray).size = 0 := rfl; omega⟩) ?_
 rintro mm aa wl6 ⟨m, s, hAwl6, cwl6, hm, hm, hd, hz⟩
 refine (show cw Tryd.prog 44 _ _ _ wl6 from ?_) aa hAwl6
 clear hAwl6
 have zwl6 := cwl6.size
 refine sx_seq fun K7 k7 => ?_
 refine sx_seq fun K8 k8 => sx_region ?_
 refine mv rfl rfl (sp rfl (px_gt rfl rfl) ?_)
 refine wl_nil (q_n (k8 _ _ ?_))
 refine sx_condP rfl (fun h16 => ?_) (fun h16 => ?_)
 ·
  refine sx_skip ?_
  refine q_n (k7 _ _ ?_)
  refine sx_block ?_
  refine sx_seq fun K9 k9 => sx_region ?_
  refine mv rfl rfl (sp rfl (px_rem rfl rfl (by omega) (by omega)) ?_)
  refine sp rfl (px_add rfl rfl (by omega)) ?_
  refine sp rfl (px_convU8 Tryd.underlying3 Tryd.underlying5 rfl (by omega)) ?_
  refine sx_lit1 rfl xelt47 rfl rfl (fun s10 ws10 ss10 fs10 cs10 => ?_)
  have zws10 := cs10.size
  refine sp rfl (px_convS1 Tryd.underlying47 Tryd.underlying9 Tryd.underlying5 rfl fs10.sv) ?_
  refine mv rfl rfl (sp rfl (px_cat rfl rfl (by first | omega | (simp only [byteS_size]; omega))) ?_)
  refine av rfl rfl (wl_nil (q_n (k9 _ _ ?_)))
  refine sx_region ?_
  refine mv rfl rfl (sp rfl (px_quo rfl rfl (by omega) (by omega) (by omega)) ?_)
  refine av rfl rfl (wl_nil ?_)
  exact q_bn (fun a ha => ⟨_, by omega, (m / 10), ((byteS (48 + (m % 10))) ++ s), ha.sub (Sub.c 0 (look_int (t := 0) rfl (by first | omega | simp)) (.c 3 rfl .nil)), (cwl6.t cs10), rfl, by omega, itx_step (by omega) hd, by rw [ByteArray.size_append, byteS_size]; omega⟩)
 refine sx_exit ?_
 refine q_e (q_e (q_bx (q_n (k5 _ _ ?_))))
 refine sx_seq fun K11 k11 => sx_region ?_
 refine mv rfl rfl (sp rfl (px_add rfl rfl (by omega)) ?_)
 refine sp rfl (px_convU8 Tryd.underlying3 Tryd.underlying5 rfl (by omega)) ?_
 refine sx_lit1 rfl xelt47 rfl rfl (fun s12 ws12 ss12 fs12 cs12 => ?_)
 have zws12 := cs12.size
 refine sp rfl (px_convS1 Tryd.underlying47 Tryd.underlying9 Tryd.underlying5 rfl fs12.sv) ?_
 refine mv rfl rfl (sp rfl (px_cat rfl rfl (by first | omega | (simp only [byteS_size]; omega))) ?_)
 refine av rfl rfl (wl_nil (q_n (k11 _ _ ?_)))
 refine sx_retc ?_
 refine sx_ret1 Tryd.results39 rfl ?_
 have e := itx_end (by omega) (by omega) hd
 exact ⟨congrArg Value.string e, (cwl6.t cs12)⟩

theorem c_sPad {w : World} {s : ByteArray} {n : Int} (hs : s.size ≤ 100000) (hn : 0 ≤ n ∧ n ≤ 100000) :
  Ret Tryd.prog 23 [.string s, .int .i64 n] w fun v w' => v = .string (padT s n) ∧ Chg 0 0 w w' := by
 refine sx_enter Tryd.func23 rfl Tryd.ntmps23 (nbl rfl) ?_
 refine sx_seq fun K1 k1 => sx_region ?_
 refine av rfl rfl (wl_nil (q_n (k1 _ _ ?_)))
 refine sx_seq fun K2 k2 => ?_
 refine sx_seq fun K3 k3 => sx_region ?_
 refine mv rfl rfl (sp rfl (px_gt rfl rfl) ?_)
 refine wl_nil (q_n (k3 _ _ ?_))
 refine sx_condP rfl (fun h115 => ?_) (fun h115 => ?_)
 ·
  refine sx_seq fun K4 k4 => sx_region ?_
  refine mv rfl rfl (av rfl rfl (wl_nil (q_n (k4 _ _ ?_))))
  refine sx_retc ?_
  refine q_r (sx_ret1 Tryd.results23 rfl ?_)
  rw [padT_no (by omega)]
  exact ⟨rfl, (Chg.refl 0 0 _)⟩
 refine sx_skip ?_
 refine q_n (k2 _ _ ?_)
 refine sx_seq fun K5 k5 => ?_
 refine sx_block ?_
 have hz0 := zer_zero s
 refine sx_loop (fun mm aa w' => ∃ (j : Nat), Agr 15 [(0, .string (zer j ++ s)), (1, .int .i64 n)] aa ∧ Chg 0 0 w w' ∧ (mm = (n - ↑j).toNat) ∧ (j = 0 ∨ ((j + s.size : Nat) : Int) ≤ n)) (_) (fun a ha => ⟨0, ha.sub (Sub.c 0 rfl (.c 1 rfl .nil)), Chg.refl _ _ _, rfl, by omega⟩) ?_
 rintro mm aa wl6 ⟨j, hAwl6, cwl6, hm, hj⟩
 refine (show cw Tryd.prog 15 _ _ _ wl6 from ?_) aa hAwl6
 clear hAwl6
 have zwl6 := cwl6.size
 have hsz : (zer j ++ s).size = j + s.size := by rw [ByteArray.size_append, zer_size]
 refine sx_seq fun K7 k7 => ?_
 refine sx_seq fun K8 k8 => sx_region ?_
 refine mv rfl rfl (sp rfl (px_lenS rfl Tryd.underlying9) ?_)
 refine mv rfl rfl (sp rfl (px_lt rfl rfl) ?_)
 refine wl_nil (q_n (k8 _ _ ?_))
 refine sx_condP rfl (fun h118 => ?_) (fun h118 => ?_)
 ·
  refine sx_skip ?_
  refine q_n (k7 _ _ ?_)
  refine sx_block ?_
  refine sx_region ?_
  refine mv rfl rfl (sp rfl (px_cat rfl rfl (by (have : (⟨#[48]⟩ : ByteArray).size = 1 := rfl); rw [ByteArray.size_append, zer_size]; omega)) ?_)
  refine av rfl rfl (wl_nil ?_)
  exact q_bn (fun a ha => ⟨_, by omega, (j + 1), ha.sub (Sub.c 0 rfl (.c 1 rfl .nil)), cwl6, rfl, by omega⟩)
 refine sx_exit ?_
 refine q_e (q_e (q_bx (q_n (k5 _ _ ?_))))
 refine sx_seq fun K9 k9 => sx_region ?_
 refine mv rfl rfl (av rfl rfl (wl_nil (q_n (k9 _ _ ?_))))
 refine sx_retc ?_
 refine sx_ret1 Tryd.results23 rfl ?_
 have e : zer j ++ s = padT s n := by
  rcases Nat.eq_zero_or_pos j with h0 | h0
  · subst h0; rw [zer_zero, padT_no (by omega)]
  · rw [padT_yes (by omega)]; congr 1; congr 1; omega
 exact ⟨congrArg Value.string e, cwl6⟩

theorem c_sNatText {w : World} {va : Value} {lva uva : Nat} {zs : List Int} (hva : Sl w lva uva va (zs)) (hN : NOk zs) (hl : zs.length ≤ 60) :
  Ret Tryd.prog 24 [va] w fun v w' => v = .string (natT zs) ∧ Chg 0 0 w w' := by
 have hva0 := hva.fit
 have hz := hN.1
 refine sx_enter Tryd.func24 rfl Tryd.ntmps24 (nbl rfl) ?_
 refine sx_seq fun K1 k1 => sx_region ?_
 refine av rfl rfl (wl_nil (q_n (k1 _ _ ?_)))
 refine sx_seq fun K2 k2 => ?_
 refine sx_seq fun K3 k3 => sx_region ?_
 refine mv rfl rfl (sx_call rfl rfl Tryd.call38 (c_sNatOk hva0 (by omega)) (fun v4 w4 p4 => ?_))
 obtain ⟨rfl, c4⟩ := p4
 have zw4 := c4.size
 refine sp rfl (px_notP rfl) ?_
 refine wl_nil (q_n (k3 _ _ ?_))
 have h165 : ¬ (¬ (NOk zs)) := fun h => h hN
 refine sx_condPF rfl h165 ?_
 refine sx_skip ?_
 refine q_n (k2 _ _ ?_)
 refine sx_seq fun K5 k5 => ?_
 refine sx_seq fun K6 k6 => sx_region ?_
 refine mv rfl rfl ?_
 have f7 := hva0.ext c4
 refine sp rfl (px_len rfl Tryd.underlying22 f7) ?_
 refine sp rfl (px_eq rfl rfl) ?_
 refine wl_nil (q_n (k6 _ _ ?_))
 refine sx_condP rfl (fun h168 => ?_) (fun h168 => ?_)
 ·
  refine sx_seq fun K8 k8 => sx_region ?_
  refine av rfl rfl (wl_nil (q_n (k8 _ _ ?_)))
  refine sx_retc ?_
  refine q_r (sx_ret1 Tryd.results24 rfl ?_)
  have e : natT zs = ⟨#[48]⟩ := by unfold natT; rw [if_pos (by omega)]
  exact ⟨congrArg Value.string e.symm, c4⟩
 refine sx_skip ?_
 refine q_n (k5 _ _ ?_)
 refine sx_seq fun K9 k9 => sx_region ?_
 refine mv rfl rfl (mv rfl rfl (sp rfl (px_len rfl Tryd.underlying22 f7) ?_))
 refine sp rfl (px_sub rfl rfl (by omega)) ?_
 refine sp rfl (px_index1 (j := (zs.length - 1)) rfl rfl (by omega) Tryd.underlying22 Tryd.sizeOf3 f7 (by omega)) ?_
 refine sp rfl (px_load rfl (f7.load1 (at_int (by omega)) Tryd.isAgg3)) ?_
 refine sx_call rfl rfl Tryd.call39 (c_sIntText (by have hb := hz.getD (zs.length - 1); omega)) (fun v10 w10 p10 => ?_)
 obtain ⟨rfl, c10⟩ := p10
 have zw10 := c10.size
 refine av rfl rfl (wl_nil (q_n (k9 _ _ ?_)))
 refine sx_sub (Sub.c 0 rfl (.c 2 rfl (.c 3 rfl .nil))) ?_
 refine sx_seq fun K11 k11 => ?_
 refine sx_seq fun K12 k12 => sx_region ?_
 refine mv rfl rfl ?_
 have f13 := f7.ext c10
 refine sp rfl (px_len rfl Tryd.underlying22 f13) ?_
 refine sp rfl (px_sub rfl rfl (by omega)) ?_
 refine av rfl rfl (wl_nil (q_n (k12 _ _ ?_)))
 refine sx_block ?_
 refine sx_loop (fun mm aa w' => ∃ (k : Nat) (t : ByteArray), Agr 34 [(0, va), (3, .string t), (4, .int .i64 (↑k - 1))] aa ∧ Chg 0 0 w10 w' ∧ (mm = k) ∧ (k < zs.length) ∧ (natGo zs k t = natT zs) ∧ (t.size + 9 * k ≤ 1000)) (_) (fun a ha => ⟨(zs.length - 1), (itx ((zs).getD (zs.length - 1) 0)), ha.sub (Sub.c 0 rfl (.c 3 rfl (.c 4 (look_int (t := 4) rfl (by first | omega | simp)) .nil))), Chg.refl _ _ _, rfl, by omega, by unfold natT; rw [if_neg (by omega)], by have hb := hz.getD (zs.length - 1); have h1 := itx_size hb.1 hb.2; omega⟩) ?_
 rintro mm aa wl14 ⟨k, t, hAwl14, cwl14, hm, hk, ht, hts⟩
 refine (show cw Tryd.prog 34 _ _ _ wl14 from ?_) aa hAwl14
 clear hAwl14
 have zwl14 := cwl14.size
 have hb := hz.getD (k - 1)
 have h1 := itx_size hb.1 hb.2
 have h2 := padT_size (s := itx (zs.getD (k - 1) 0)) (n := 9) (by decide)
 refine sx_seq fun K15 k15 => ?_
 refine sx_seq fun K16 k16 => sx_region ?_
 refine mv rfl rfl (sp rfl (px_ge rfl rfl) ?_)
 refine wl_nil (q_n (k16 _ _ ?_))
 refine sx_condP rfl (fun h172 => ?_) (fun h172 => ?_)
 ·
  refine sx_skip ?_
  refine q_n (k15 _ _ ?_)
  refine sx_seq fun K17 k17 => ?_
  refine sx_block ?_
  refine sx_region ?_
  refine mv rfl rfl (mv rfl rfl (mv rfl rfl ?_))
  have f18 := f13.ext cwl14
  refine sp rfl (px_index1 (j := (k - 1)) rfl rfl (by omega) Tryd.underlying22 Tryd.sizeOf3 f18 (by omega)) ?_
  refine sp rfl (px_load rfl (f18.load1 (at_int (by omega)) Tryd.isAgg3)) ?_
  refine sx_call rfl rfl Tryd.call39 (c_sIntText (by omega)) (fun v19 w19 p19 => ?_)
  obtain ⟨rfl, c19⟩ := p19
  have zw19 := c19.size
  refine sx_call rfl rfl Tryd.call23 (c_sPad (by omega) (by omega)) (fun v20 w20 p20 => ?_)
  obtain ⟨rfl, c20⟩ := p20
  have zw20 := c20.size
  refine sp rfl (px_cat rfl rfl (by omega)) ?_
  refine av rfl rfl (wl_nil ?_)
  refine q_bn (q_n (k17 _ _ ?_))
  refine sx_region ?_
  refine mv rfl rfl (sp rfl (px_sub rfl rfl (by omega)) ?_)
  refine av rfl rfl (wl_nil ?_)
  exact fun a ha => ⟨_, by omega, (k - 1), (t ++ (padT (itx ((zs).getD (k - 1) 0)) (9 : Int))), ha.sub (Sub.c 0 rfl (.c 3 rfl (.c 4 (look_int (t := 4) rfl (by first | omega | simp)) .nil))), ((cwl14.t c19).t c20), rfl, by omega, (natGo_step (by omega)).symm.trans ht, by rw [ByteArray.size_append]; omega⟩
 refine sx_exit ?_
 refine q_e (q_e (q_bx (q_n (k11 _ _ ?_))))
 refine sx_seq fun K21 k21 => sx_region ?_
 refine mv rfl rfl (av rfl rfl (wl_nil (q_n (k21 _ _ ?_))))
 refine sx_retc ?_
 refine sx_ret1 Tryd.results24 rfl ?_
 have ek : k = 0 := by omega
 subst ek
 exact ⟨congrArg Value.string (show t = natT zs from ht), ((c4.t c10).t cwl14)⟩

theorem c_sDecText {w : World} {n1 : Bool} {v1 : Value} {lv1 uv1 : Nat} {z1 : List Int} {p1 : Int} (hv1 : Sl w lv1 uv1 v1 (z1)) (h63 : z1.length ≤ 4611686018427387904) :
  Ret Tryd.prog 11 [.agg #[.bool n1, v1, .int .i64 p1]] w fun v w' => v = .string (decT n1 z1 p1) ∧ ((decT n1 z1 p1).size ≤ 200) ∧ Chg 0 0 w w' := by
 have hv10 := hv1.fit
 refine sx_enter Tryd.func11 rfl Tryd.ntmps11 (nbl rfl) ?_
 refine sx_seq fun K1 k1 => sx_region ?_
 refine sx_box [.bool n1, v1, .int .i64 p1] rfl rfl rfl (fun b2 w3 eb2 sb2 fb2 cb2 => ?_)
 have zw3 := cb2.size
 refine av rfl rfl (wl_nil (q_n (k1 _ _ ?_)))
 refine sx_seq fun K4 k4 => ?_
 refine sx_seq fun K5 k5 => sx_region ?_
 refine sp rfl (px_load rfl (fb2.loadA (vs := [.bool n1, v1, .int .i64 p1]) (look_lit rfl) Tryd.isAgg26 Tryd.sizeOf26)) ?_
 have f6 := hv10.ext cb2
 refine sx_call rfl rfl Tryd.call22 (c_sDecOk f6 (by omega)) (fun v7 w7 p7 => ?_)
 obtain ⟨rfl, c7⟩ := p7
 have zw7 := c7.size
 refine sp rfl (px_notP rfl) ?_
 refine wl_nil (q_n (k5 _ _ ?_))
 refine sx_condP rfl (fun h32 => ?_) (fun h32 => ?_)
 ·
  refine sx_seq fun K8 k8 => sx_region ?_
  refine av rfl rfl (wl_nil (q_n (k8 _ _ ?_)))
  refine sx_retc ?_
  refine q_r (sx_ret1 Tryd.results11 rfl ?_)
  rw [decT_no h32]
  exact ⟨rfl, by decide, (cb2.t c7)⟩
 have hD := Decidable.not_not.1 h32
 have hz := hD.1.1.1
 have hl6 := hD.2.1
 have hp30 := hD.2.2
 have hns := natT_size hz
 have hps := padT_size (s := natT z1) (n := p1 + 1) (by omega)
 refine sx_skip ?_
 refine q_n (k4 _ _ ?_)
 refine sx_seq fun K9 k9 => ?_
 have f10 := fb2.ext c7
 refine dx_region (fun w' => Chg 0 0 w7 w') (by kernel_rfl) (Chg.zero (Chg.drew _)) ?_
 have d12 := Chg.drew w7
 have s12 : Chg 0 0 w7 (World.drew w7) := Chg.zero (Chg.drew _)
 have y12 : (World.drew w7).heap.size = w7.heap.size := rfl
 generalize World.drew w7 = w12 at *
 have zw12 := d12.size
 refine dt 0 rfl rfl rfl rfl s12 (fun _ hS => px_field rfl xfld26x0) ?_
 refine dt 1 rfl rfl rfl rfl s12 (fun _ hS => px_field rfl xfld24x1) ?_
 refine dt 2 rfl rfl rfl rfl s12 (fun _ hS => px_load rfl ((f10.chg hS (by omega)).load1 rfl Tryd.isAgg22)) ?_
 refine dt 4 rfl rfl rfl rfl s12 (fun _ hS => px_field rfl xfld26x1) ?_
 refine dt 5 rfl rfl rfl rfl s12 (fun _ hS => px_load rfl ((f10.chg hS (by omega)).load1 rfl Tryd.isAgg3)) ?_
 refine dt 6 rfl rfl rfl rfl s12 (fun _ hS => px_add rfl rfl (by omega)) ?_
 refine dx_eff 3 rfl (by kernel_rfl) ?_
 have f13 := (f6.ext c7).ext d12
 refine sx_call rfl rfl Tryd.call24 (c_sNatText f13 (hD.1.1) (by omega)) (fun v14 w14 p14 => ?_)
 obtain ⟨rfl, c14⟩ := p14
 have zw14 := c14.size
 have s15 : Chg 0 0 w7 w14 := (d12.t c14)
 refine wl_nil ?_
 refine dx_next s15 ?_
 refine dx_eff 7 rfl (by kernel_rfl) ?_
 refine sx_call rfl rfl Tryd.call23 (c_sPad (by omega) (by omega)) (fun v16 w16 p16 => ?_)
 obtain ⟨rfl, c16⟩ := p16
 have zw16 := c16.size
 have s17 : Chg 0 0 w7 w16 := ((d12.t c14).t c16)
 refine wl_nil ?_
 refine dx_next s17 ?_
 refine dt 8 rfl rfl rfl rfl s17 (fun _ hS => px_assign rfl) ?_
 refine dx_done (by kernel_rfl) ?_
 refine q_n (k9 _ _ ?_)
 refine sx_sub (Sub.c 1 rfl (.c 2 rfl (.c 3 rfl .nil))) ?_
 refine sx_seq fun K18 k18 => ?_
 refine sx_seq fun K19 k19 => sx_region ?_
 refine sp rfl (px_field rfl xfld26x1) ?_
 have f22 := ((f10.ext d12).ext c14).ext c16
 refine sp rfl (px_load rfl (f22.load1 rfl Tryd.isAgg3)) ?_
 refine sp rfl (px_gt rfl rfl) ?_
 refine wl_nil (q_n (k19 _ _ ?_))
 refine sx_condP rfl (fun h36 => ?_) (fun h36 => ?_)
 ·
  refine sx_seq fun K23 k23 => sx_region ?_
  refine mv rfl rfl (sp rfl (px_lenS rfl Tryd.underlying9) ?_)
  refine sp rfl (px_field rfl xfld26x1) ?_
  refine sp rfl (px_load rfl (f22.load1 rfl Tryd.isAgg3)) ?_
  refine sp rfl (px_sub rfl rfl (by omega)) ?_
  refine av rfl rfl (wl_nil (q_n (k23 _ _ ?_)))
  have f25 := (f13.ext c14).ext c16
  refine dx_region (fun w' => Chg 0 0 w16 w') (by kernel_rfl) (Chg.zero (Chg.drew _)) ?_
  have d26 := Chg.drew w16
  have s26 : Chg 0 0 w16 (World.drew w16) := Chg.zero (Chg.drew _)
  have y26 : (World.drew w16).heap.size = w16.heap.size := rfl
  generalize World.drew w16 = w26 at *
  have zw26 := d26.size
  refine dt 0 rfl rfl rfl rfl s26 (fun _ hS => px_move rfl) ?_
  refine dt 1 rfl rfl rfl rfl s26 (fun _ hS => px_move rfl) ?_
  refine dt 2 rfl rfl rfl rfl s26 (fun _ hS => px_strTo (h := ((padT (natT z1) (p1 + 1)).size - p1.toNat)) rfl rfl (by omega) Tryd.underlying9 (by omega)) ?_
  refine dt 3 rfl rfl rfl rfl s26 (fun _ hS => px_cat rfl rfl (by (have e45 : (⟨#[45]⟩ : ByteArray).size = 1 := rfl); (have e46 : (⟨#[46]⟩ : ByteArray).size = 1 := rfl); (try simp only [ByteArray.size_append, ByteArray.size_extract]); omega)) ?_
  refine dt 4 rfl rfl rfl rfl s26 (fun _ hS => px_move rfl) ?_
  refine dt 5 rfl rfl rfl rfl s26 (fun _ hS => px_move rfl) ?_
  refine dt 6 rfl rfl rfl rfl s26 (fun _ hS => px_strFrom (l := ((padT (natT z1) (p1 + 1)).size - p1.toNat)) rfl rfl (by omega) Tryd.underlying9 (by omega)) ?_
  refine dt 7 rfl rfl rfl rfl s26 (fun _ hS => px_cat rfl rfl (by (have e45 : (⟨#[45]⟩ : ByteArray).size = 1 := rfl); (have e46 : (⟨#[46]⟩ : ByteArray).size = 1 := rfl); (try simp only [ByteArray.size_append, ByteArray.size_extract]); omega)) ?_
  refine dt 8 rfl rfl rfl rfl s26 (fun _ hS => px_assign rfl) ?_
  refine dx_done (by kernel_rfl) ?_
  refine q_n (k18 _ _ ?_)
  refine sx_sub (Sub.c 1 rfl (.c 2 rfl (.c 3 rfl .nil))) ?_
  refine sx_seq fun K27 k27 => ?_
  refine sx_seq fun K28 k28 => sx_region ?_
  refine sp rfl (px_field rfl xfld26x0) ?_
  refine sp rfl (px_field rfl xfld24x0) ?_
  have f29 := f22.ext d26
  refine sp rfl (px_load rfl (f29.load1 rfl Tryd.isAgg4)) ?_
  refine wl_nil (q_n (k28 _ _ ?_))
  refine sx_condB rfl (fun h40 => ?_) (fun h40 => ?_)
  ·
   refine sx_seq fun K30 k30 => sx_region ?_
   refine mv rfl rfl (sp rfl (px_cat rfl rfl (by (have e45 : (⟨#[45]⟩ : ByteArray).size = 1 := rfl); (have e46 : (⟨#[46]⟩ : ByteArray).size = 1 := rfl); (try simp only [ByteArray.size_append, ByteArray.size_extract]); omega)) ?_)
   refine av rfl rfl (wl_nil (q_n (k30 _ _ ?_)))
   refine sx_retc ?_
   refine q_r (sx_ret1 Tryd.results11 rfl ?_)
   have e : (⟨#[45]⟩) ++ ((((padT (natT z1) (p1 + 1)).extract 0 ((padT (natT z1) (p1 + 1)).size - p1.toNat)) ++ (⟨#[46]⟩)) ++ ((padT (natT z1) (p1 + 1)).extract ((padT (natT z1) (p1 + 1)).size - p1.toNat) (padT (natT z1) (p1 + 1)).size)) = decT n1 z1 p1 := by unfold decT sgT ptT; rw [if_pos hD]; simp [h36, h40]
   exact ⟨congrArg Value.string e, by rw [← e]; (try simp only [ByteArray.size_append, ByteArray.size_extract]); (try have e45 : (⟨#[45]⟩ : ByteArray).size = 1 := rfl); (try have e46 : (⟨#[46]⟩ : ByteArray).size = 1 := rfl); omega, (((((cb2.t c7).t d12).t c14).t c16).t d26)⟩
  refine sx_skip ?_
  refine q_n (k27 _ _ ?_)
  refine sx_seq fun K31 k31 => sx_region ?_
  refine mv rfl rfl (av rfl rfl (wl_nil (q_n (k31 _ _ ?_))))
  refine sx_retc ?_
  refine sx_ret1 Tryd.results11 rfl ?_
  have e : (((padT (natT z1) (p1 + 1)).extract 0 ((padT (natT z1) (p1 + 1)).size - p1.toNat)) ++ (⟨#[46]⟩)) ++ ((padT (natT z1) (p1 + 1)).extract ((padT (natT z1) (p1 + 1)).size - p1.toNat) (padT (natT z1) (p1 + 1)).size) = decT n1 z1 p1 := by unfold decT sgT ptT; rw [if_pos hD]; simp [h36, h40]
  exact ⟨congrArg Value.string e, by rw [← e]; (try simp only [ByteArray.size_append, ByteArray.size_extract]); (try have e45 : (⟨#[45]⟩ : ByteArray).size = 1 := rfl); (try have e46 : (⟨#[46]⟩ : ByteArray).size = 1 := rfl); omega, (((((cb2.t c7).t d12).t c14).t c16).t d26)⟩
 refine sx_skip ?_
 refine q_n (k18 _ _ ?_)
 refine sx_seq fun K32 k32 => ?_
 refine sx_seq fun K33 k33 => sx_region ?_
 refine sp rfl (px_field rfl xfld26x0) ?_
 refine sp rfl (px_field rfl xfld24x0) ?_
 refine sp rfl (px_load rfl (f22.load1 rfl Tryd.isAgg4)) ?_
 refine wl_nil (q_n (k33 _ _ ?_))
 refine sx_condB rfl (fun h40 => ?_) (fun h40 => ?_)
 ·
  refine sx_seq fun K34 k34 => sx_region ?_
  refine mv rfl rfl (sp rfl (px_cat rfl rfl (by (have e45 : (⟨#[45]⟩ : ByteArray).size = 1 := rfl); (have e46 : (⟨#[46]⟩ : ByteArray).size = 1 := rfl); (try simp only [ByteArray.size_append, ByteArray.size_extract]); omega)) ?_)
  refine av rfl rfl (wl_nil (q_n (k34 _ _ ?_)))
  refine sx_retc ?_
  refine q_r (sx_ret1 Tryd.results11 rfl ?_)
  have e : (⟨#[45]⟩) ++ (padT (natT z1) (p1 + 1)) = decT n1 z1 p1 := by unfold decT sgT ptT; rw [if_pos hD]; simp [h36, h40]
  exact ⟨congrArg Value.string e, by rw [← e]; (try simp only [ByteArray.size_append, ByteArray.size_extract]); (try have e45 : (⟨#[45]⟩ : ByteArray).size = 1 := rfl); (try have e46 : (⟨#[46]⟩ : ByteArray).size = 1 := rfl); omega, ((((cb2.t c7).t d12).t c14).t c16)⟩
 refine sx_skip ?_
 refine q_n (k32 _ _ ?_)
 refine sx_seq fun K35 k35 => sx_region ?_
 refine mv rfl rfl (av rfl rfl (wl_nil (q_n (k35 _ _ ?_))))
 refine sx_retc ?_
 refine sx_ret1 Tryd.results11 rfl ?_
 have e : padT (natT z1) (p1 + 1) = decT n1 z1 p1 := by unfold decT sgT ptT; rw [if_pos hD]; simp [h36, h40]
 exact ⟨congrArg Value.string e, by rw [← e]; (try simp only [ByteArray.size_append, ByteArray.size_extract]); (try have e45 : (⟨#[45]⟩ : ByteArray).size = 1 := rfl); (try have e46 : (⟨#[46]⟩ : ByteArray).size = 1 := rfl); omega, ((((cb2.t c7).t d12).t c14).t c16)⟩

end Go.Proofs.YtbmcabnpmplckaaDoor
