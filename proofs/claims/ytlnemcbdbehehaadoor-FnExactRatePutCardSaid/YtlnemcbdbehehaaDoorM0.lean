/- Contracts of functions of the program: what each call returns, and that it changes nothing that was. Conditions: as each says. -/
import Derived.Test.YtlnemcbdbehehaaDoorTy
import Derived.Test.YtlnemcbdbehehaaDoorNatN
import Derived.Test.YtlnemcbdbehehaaDoorSxD
import Derived.Test.YtlnemcbdbehehaaDoorPair
import Derived.Test.YtlnemcbdbehehaaDoorSxW
import Derived.Test.YtlnemcbdbehehaaDoorNatS
import Derived.Test.YtlnemcbdbehehaaDoorSxG
import Derived.Test.YtlnemcbdbehehaaDoorNatT
import Derived.Test.YtlnemcbdbehehaaDoorNatO
import Derived.Test.YtlnemcbdbehehaaDoorNatV
import Derived.Test.YtlnemcbdbehehaaDoorSxP
import Derived.Test.YtlnemcbdbehehaaDoorNatY
set_option linter.unusedVariables false
set_option linter.unusedSimpArgs false
namespace Go.Proofs.YtlnemcbdbehehaaDoor
open Go Go.RowKit
set_option maxRecDepth 100000
set_option maxHeartbeats 1000000
theorem c_currencyOf {w : World} {s : ByteArray} (hG0 : Glob w) :
  Ret Tryd.prog 83 [.string s] w fun v w' => v = .tuple #[.agg #[.string ((curOf s).code), .string ((curOf s).number), .int .i64 ((curOf s).places), .int .i64 ((curOf s).cash)], .bool (decide (Known s))] ∧ Chg 0 0 w w' := by
 refine sx_enter Tryd.func83 rfl Tryd.ntmps83 (nbl rfl) ?_
 refine sx_seq fun K1 k1 => sx_region ?_
 refine sx_alloc [.string (⟨#[]⟩), .string (⟨#[]⟩), .int .i64 0, .int .i64 0] rfl Tryd.zeroValue123 rfl (fun b2 w3 eb2 sb2 fb2 cb2 => ?_)
 have zw3 := cb2.size
 refine av rfl rfl (wl_nil (q_n (k1 _ _ ?_)))
 refine sx_seq fun K4 k4 => ?_
 refine sx_seq fun K5 k5 => sx_region ?_
 have f6 := hG0.ext cb2
 refine sp rfl (px_load rfl (Glob.load f6 Tryd.isAgg141 Tryd.sizeOf141)) ?_
 refine mv rfl rfl (wl_nil (q_n (k5 _ _ ?_)))
 refine sx_block ?_
 refine sx_loop (fun mm aa w' => ∃ (k : Nat), Agr 17 [(0, .string s), (2, .pointer (some ⟨b2, 0, none⟩)), (6, .agg (crCells tabI).toArray), (7, .int .i64 ↑k)] aa ∧ Chg 0 0 w3 w' ∧ (mm = 20 - k) ∧ (k ≤ 20) ∧ (∀ i, i < k → ¬ (tabI.getD i cr0).code = s)) (20) (fun a ha => ⟨0, ha.sub (Sub.c 0 rfl (.c 2 rfl (.c 6 rfl (.c 7 (look_int (t := 7) rfl (by first | omega | simp)) .nil)))), Chg.refl _ _ _, rfl, by omega, fun i h => by omega⟩) ?_
 rintro mm aa wl7 ⟨k, hAwl7, cwl7, hm, hk, hn⟩
 refine (show cw Tryd.prog 17 _ _ _ wl7 from ?_) aa hAwl7
 clear hAwl7
 have zwl7 := cwl7.size
 refine sx_seq fun K8 k8 => sx_region ?_
 refine sp rfl (px_lt rfl rfl) ?_
 refine wl_nil (q_n (k8 _ _ ?_))
 refine sx_seq fun K9 k9 => ?_
 refine sx_condP rfl (fun h39 => ?_) (fun h39 => ?_)
 ·
  refine sx_skip ?_
  refine q_n (k9 _ _ ?_)
  refine sx_seq fun K10 k10 => ?_
  refine sx_block ?_
  refine sx_seq fun K11 k11 => sx_region ?_
  refine sp rfl (px_indexCr (l := tabI) (j := k) rfl rfl (by omega) Tryd.underlying141 rfl Tryd.sizeOf123 Tryd.isAgg123 (by rw [show tabI.length = 20 from rfl]; omega)) ?_
  refine sx_alloc [.string (⟨#[]⟩), .string (⟨#[]⟩), .int .i64 0, .int .i64 0] rfl Tryd.zeroValue123 rfl (fun b12 w13 eb12 sb12 fb12 cb12 => ?_)
  have zw13 := cb12.size
  refine sx_store (vs := [.string ((tabI.getD k cr0).code), .string ((tabI.getD k cr0).number), .int .i64 ((tabI.getD k cr0).places), .int .i64 ((tabI.getD k cr0).cash)]) rfl rfl fb12 rfl Tryd.sizeOf123 (nbl rfl) (one_cons rfl (o3 rfl rfl rfl)) (fun w14 sw14 fw14 cw14 => ?_)
  have zw14 := cw14.size
  have gw14 : Blk w14 b12 [.string ((tabI.getD k cr0).code), .string ((tabI.getD k cr0).number), .int .i64 ((tabI.getD k cr0).places), .int .i64 ((tabI.getD k cr0).cash)] 123 := fw14
  refine wl_nil (q_n (k11 _ _ ?_))
  refine sx_seq fun K15 k15 => sx_region ?_
  refine sp rfl (px_field rfl xfld123x0) ?_
  refine sp rfl (px_load rfl (gw14.load1 rfl Tryd.isAgg9)) ?_
  refine mv rfl rfl (sp rfl (px_eqS rfl rfl) ?_)
  refine wl_nil (q_n (k15 _ _ ?_))
  refine sx_condP rfl (fun h40 => ?_) (fun h40 => ?_)
  ·
   refine sx_seq fun K16 k16 => sx_region ?_
   refine sp rfl (px_load rfl (gw14.loadA (vs := [.string ((tabI.getD k cr0).code), .string ((tabI.getD k cr0).number), .int .i64 ((tabI.getD k cr0).places), .int .i64 ((tabI.getD k cr0).cash)]) (look_lit rfl) Tryd.isAgg123 Tryd.sizeOf123)) ?_
   have f18 := fb2.ext cwl7
   have f19 := f18.ext cb12
   have f20 := f19.chg cw14 (by omega)
   refine sx_store (vs := [.string ((tabI.getD k cr0).code), .string ((tabI.getD k cr0).number), .int .i64 ((tabI.getD k cr0).places), .int .i64 ((tabI.getD k cr0).cash)]) rfl rfl f20 rfl Tryd.sizeOf123 (nbl rfl) (one_cons rfl (o3 rfl rfl rfl)) (fun w17 sw17 fw17 cw17 => ?_)
   have zw17 := cw17.size
   have gw17 : Blk w17 b2 [.string ((tabI.getD k cr0).code), .string ((tabI.getD k cr0).number), .int .i64 ((tabI.getD k cr0).places), .int .i64 ((tabI.getD k cr0).cash)] 123 := fw17
   refine av rfl rfl (wl_nil (q_n (k16 _ _ ?_)))
   refine sx_retc ?_
   refine q_br (q_r (q_r (q_br (q_r (sx_ret2 Tryd.results83 ⟨_, rfl, gw17.loadA (vs := [.string ((tabI.getD k cr0).code), .string ((tabI.getD k cr0).number), .int .i64 ((tabI.getD k cr0).places), .int .i64 ((tabI.getD k cr0).cash)]) (look_lit rfl) Tryd.isAgg123 Tryd.sizeOf123⟩ rfl ?_)))))
   have e := curOf_some (by rw [show tabI.length = 20 from rfl]; omega) hn h40
   have e2 := known_some (by rw [show tabI.length = 20 from rfl]; omega) hn h40
   rw [e]
   have q21 := Chg.step (l := 0) (h := 0) (Chg.zero (l := 0) (h := 0) ((cb2.t cwl7).t cb12)) cw14 (by omega)
   have q22 := Chg.step (l := 0) (h := 0) q21 cw17 (by omega)
   exact ⟨by simp [e2], q22⟩
  refine sx_skip ?_
  refine q_bn (q_n (k10 _ _ ?_))
  refine sx_region ?_
  refine sp rfl (px_add rfl rfl (by omega)) ?_
  refine mv rfl rfl (wl_nil ?_)
  have q23 := Chg.step (l := 0) (h := 0) (Chg.zero (l := 0) (h := 0) (cwl7.t cb12)) cw14 (by omega)
  exact fun a ha => ⟨_, by omega, (k + 1), ha.sub (Sub.c 0 rfl (.c 2 rfl (.c 6 rfl (.c 7 (look_int (t := 7) rfl (by first | omega | simp)) .nil)))), q23, rfl, by omega, upto_succ hn h40⟩
 refine sx_exit ?_
 refine q_e (q_e (q_bx (q_n (k4 _ _ ?_))))
 refine sx_seq fun K24 k24 => sx_region ?_
 refine sp rfl (px_build rfl (xbld123x  _)) ?_
 have f26 := fb2.ext cwl7
 refine sx_store (vs := [.string (⟨#[]⟩), .string (⟨#[]⟩), .int .i64 0, .int .i64 0]) rfl rfl f26 rfl Tryd.sizeOf123 (nbl rfl) (one_cons rfl (o3 rfl rfl rfl)) (fun w25 sw25 fw25 cw25 => ?_)
 have zw25 := cw25.size
 have gw25 : Blk w25 b2 [.string (⟨#[]⟩), .string (⟨#[]⟩), .int .i64 0, .int .i64 0] 123 := fw25
 refine av rfl rfl (wl_nil (q_n (k24 _ _ ?_)))
 refine sx_retc ?_
 refine sx_ret2 Tryd.results83 ⟨_, rfl, gw25.loadA (vs := [.string (⟨#[]⟩), .string (⟨#[]⟩), .int .i64 0, .int .i64 0]) (look_lit rfl) Tryd.isAgg123 Tryd.sizeOf123⟩ rfl ?_
 have e := curOf_none (s := s) (fun i hi => hn i (by rw [show tabI.length = 20 from rfl] at hi; omega))
 have e2 := known_none (s := s) (fun i hi => hn i (by rw [show tabI.length = 20 from rfl] at hi; omega))
 rw [e]
 have q27 := Chg.step (l := 0) (h := 0) (Chg.zero (l := 0) (h := 0) (cb2.t cwl7)) cw25 (by omega)
 exact ⟨by simp [e2, cr0], q27⟩

theorem c_iCurKnown {w : World} {s : ByteArray} (hG0 : Glob w) :
  Ret Tryd.prog 50 [.string s] w fun v w' => v = .bool (decide (Known s)) ∧ Chg 0 0 w w' := by
 refine sx_enter Tryd.func50 rfl Tryd.ntmps50 (nbl rfl) ?_
 refine sx_seq fun K1 k1 => sx_region ?_
 refine av rfl rfl (wl_nil (q_n (k1 _ _ ?_)))
 refine sx_seq fun K2 k2 => sx_region ?_
 refine mv rfl rfl (sx_call rfl rfl Tryd.call83 (c_currencyOf hG0) (fun v3 w3 p3 => ?_))
 obtain ⟨rfl, c3⟩ := p3
 have zw3 := c3.size
 refine mv rfl rfl (sp rfl (px_ex2 rfl rfl) ?_)
 refine sp rfl (px_ex2 rfl rfl) ?_
 refine sx_alloc [.string (⟨#[]⟩), .string (⟨#[]⟩), .int .i64 0, .int .i64 0] rfl Tryd.zeroValue123 rfl (fun b4 w5 eb4 sb4 fb4 cb4 => ?_)
 have zw5 := cb4.size
 refine sx_store (vs := [.string ((curOf s).code), .string ((curOf s).number), .int .i64 ((curOf s).places), .int .i64 ((curOf s).cash)]) rfl rfl fb4 rfl Tryd.sizeOf123 (nbl rfl) (one_cons rfl (o3 rfl rfl rfl)) (fun w6 sw6 fw6 cw6 => ?_)
 have zw6 := cw6.size
 have gw6 : Blk w6 b4 [.string ((curOf s).code), .string ((curOf s).number), .int .i64 ((curOf s).places), .int .i64 ((curOf s).cash)] 123 := fw6
 refine av rfl rfl (wl_nil (q_n (k2 _ _ ?_)))
 refine sx_seq fun K7 k7 => sx_region ?_
 refine mv rfl rfl (av rfl rfl (wl_nil (q_n (k7 _ _ ?_))))
 refine sx_retc ?_
 refine sx_ret1 Tryd.results50 rfl ?_
 have q8 := Chg.step (l := 0) (h := 0) (Chg.zero (l := 0) (h := 0) (c3.t cb4)) cw6 (by omega)
 exact ⟨rfl, q8⟩

theorem c_iNatOk {w : World} {va : Value} {lva uva : Nat} {zs : List Int} (hva : Sl w lva uva va (zs)) (h63 : zs.length ≤ 4611686018427387904) :
  Ret Tryd.prog 92 [va] w fun v w' => v = .bool (decide (NOk zs)) ∧ Chg 0 0 w w' := by
 have hva0 := hva.fit
 refine sx_enter Tryd.func92 rfl Tryd.ntmps92 (nbl rfl) ?_
 refine sx_seq fun K1 k1 => sx_region ?_
 refine av rfl rfl (wl_nil (q_n (k1 _ _ ?_)))
 refine sx_seq fun K2 k2 => ?_
 refine sx_seq fun K3 k3 => sx_region ?_
 refine mv rfl rfl (sp rfl (px_len rfl Tryd.underlying25 hva0) ?_)
 refine sp rfl (px_gt rfl rfl) ?_
 refine mv rfl rfl ?_
 refine sx_tmpP (t := 8) rfl (fun h13 => ?_) (fun h13 => ?_)
 ·
  refine sx_guardF rfl rfl rfl rfl rfl rfl ?_
  refine sx_guardF rfl rfl rfl rfl rfl rfl ?_
  refine sx_guardF rfl rfl rfl rfl rfl rfl ?_
  refine sx_guardF rfl rfl rfl rfl rfl rfl ?_
  refine sx_guardFU rfl rfl rfl rfl rfl ?_
  refine sx_guardFU rfl rfl rfl rfl rfl ?_
  refine sx_guardFU rfl rfl rfl rfl rfl ?_
  refine sx_guardFU rfl rfl rfl rfl rfl ?_
  refine sx_guardFU rfl rfl rfl rfl rfl ?_
  refine sx_guardFU rfl rfl rfl rfl rfl ?_
  refine sx_guardFU rfl rfl rfl rfl rfl ?_
  refine sx_guardF rfl rfl rfl rfl rfl rfl ?_
  refine sp rfl (px_pick rfl rfl) ?_
  refine wl_nil (q_n (k3 _ _ ?_))
  refine sx_sub (Sub.c 0 rfl (.c 2 rfl (.c 21 rfl .nil))) ?_
  refine sx_condT rfl ?_
  refine sx_seq fun K4 k4 => sx_region ?_
  refine av rfl rfl (wl_nil (q_n (k4 _ _ ?_)))
  refine sx_retc ?_
  refine q_r (sx_ret1 Tryd.results92 rfl ?_)
  exact ⟨bFalse (fun h => by first | (have h1 := h.2.1; omega) | exact h.2.2 ((last_getD (by omega)).2 (by assumption))), (Chg.refl 0 0 _)⟩
 refine sx_guardT rfl rfl rfl ?_
 refine mv rfl rfl ?_
 refine sx_guardT rfl rfl rfl ?_
 refine sp rfl (px_len rfl Tryd.underlying25 hva0) ?_
 refine sx_guardT rfl rfl rfl ?_
 refine sp rfl (px_gt rfl rfl) ?_
 refine sx_guardT rfl rfl rfl ?_
 refine mv rfl rfl ?_
 refine sx_tmpP (t := 12) rfl (fun h13x1 => ?_) (fun h13x1 => ?_)
 ·
  refine sx_guardT rfl rfl rfl ?_
  refine mv rfl rfl ?_
  refine sx_guardT rfl rfl rfl ?_
  refine mv rfl rfl ?_
  refine sx_guardT rfl rfl rfl ?_
  refine sp rfl (px_len rfl Tryd.underlying25 hva0) ?_
  refine sx_guardT rfl rfl rfl ?_
  refine sp rfl (px_sub rfl rfl (by omega)) ?_
  refine sx_guardT rfl rfl rfl ?_
  refine sp rfl (px_index1 (j := (zs.length - 1)) rfl rfl (by omega) Tryd.underlying25 Tryd.sizeOf3 hva0 (by omega)) ?_
  refine sx_guardT rfl rfl rfl ?_
  refine sp rfl (px_load rfl (hva0.load1 (at_int (by omega)) Tryd.isAgg3)) ?_
  refine sx_guardT rfl rfl rfl ?_
  refine sp rfl (px_eq rfl rfl) ?_
  refine sx_guardT rfl rfl rfl ?_
  refine sp rfl (px_pick rfl rfl) ?_
  refine sp rfl (px_pick rfl rfl) ?_
  refine wl_nil (q_n (k3 _ _ ?_))
  refine sx_sub (Sub.c 0 rfl (.c 2 rfl (.c 21 rfl .nil))) ?_
  refine sx_condP rfl (fun h13x2 => ?_) (fun h13x2 => ?_)
  ·
   refine sx_seq fun K5 k5 => sx_region ?_
   refine av rfl rfl (wl_nil (q_n (k5 _ _ ?_)))
   refine sx_retc ?_
   refine q_r (sx_ret1 Tryd.results92 rfl ?_)
   exact ⟨bFalse (fun h => by first | (have h1 := h.2.1; omega) | exact h.2.2 ((last_getD (by omega)).2 (by assumption))), (Chg.refl 0 0 _)⟩
  refine sx_skip ?_
  refine q_n (k2 _ _ ?_)
  refine sx_seq fun K6 k6 => ?_
  refine sx_seq fun K7 k7 => sx_region ?_
  refine mv rfl rfl (sp rfl (px_len rfl Tryd.underlying25 hva0) ?_)
  refine mv rfl rfl (wl_nil (q_n (k7 _ _ ?_)))
  refine sx_block ?_
  refine sx_loop (fun mm aa w' => ∃ (k : Nat), Agr 35 [(22, va), (23, .int .i64 ↑zs.length), (24, .int .i64 ↑k)] aa ∧ Chg 0 0 w w' ∧ (mm = zs.length - k) ∧ (k ≤ zs.length) ∧ (∀ i, i < k → 0 ≤ zs.getD i 0 ∧ zs.getD i 0 < 1000000000)) (_) (fun a ha => ⟨0, ha.sub (Sub.c 22 rfl (.c 23 (look_int (t := 23) rfl (by first | omega | simp)) (.c 24 (look_int (t := 24) rfl (by first | omega | simp)) .nil))), Chg.refl _ _ _, rfl, by omega, fun i h => by omega⟩) ?_
  rintro mm aa wl8 ⟨k, hAwl8, cwl8, hm, hk, hall⟩
  refine (show cw Tryd.prog 35 _ _ _ wl8 from ?_) aa hAwl8
  clear hAwl8
  have zwl8 := cwl8.size
  refine sx_seq fun K9 k9 => sx_region ?_
  refine sp rfl (px_lt rfl rfl) ?_
  refine wl_nil (q_n (k9 _ _ ?_))
  refine sx_seq fun K10 k10 => ?_
  refine sx_condP rfl (fun h16 => ?_) (fun h16 => ?_)
  ·
   refine sx_skip ?_
   refine q_n (k10 _ _ ?_)
   refine sx_seq fun K11 k11 => ?_
   refine sx_block ?_
   refine sx_seq fun K12 k12 => sx_region ?_
   have f13 := hva0.ext cwl8
   refine sp rfl (px_index1 (j := k) rfl rfl (by omega) Tryd.underlying25 Tryd.sizeOf3 f13 (by omega)) ?_
   refine sp rfl (px_load rfl (f13.load1 (at_int (by omega)) Tryd.isAgg3)) ?_
   refine av rfl rfl (wl_nil (q_n (k12 _ _ ?_)))
   refine sx_seq fun K14 k14 => sx_region ?_
   refine mv rfl rfl (sp rfl (px_lt rfl rfl) ?_)
   refine mv rfl rfl ?_
   refine sx_tmpP (t := 30) rfl (fun h17 => ?_) (fun h17 => ?_)
   ·
    refine sx_guardF rfl rfl rfl rfl rfl rfl ?_
    refine sx_guardF rfl rfl rfl rfl rfl rfl ?_
    refine sp rfl (px_pick rfl rfl) ?_
    refine wl_nil (q_n (k14 _ _ ?_))
    refine sx_condT rfl ?_
    refine sx_seq fun K15 k15 => sx_region ?_
    refine av rfl rfl (wl_nil (q_n (k15 _ _ ?_)))
    refine sx_retc ?_
    refine q_br (q_r (q_r (q_br (q_r (sx_ret1 Tryd.results92 rfl ?_)))))
    exact ⟨bFalse (fun h => by have h1 := h.1.getD k; omega), cwl8⟩
   refine sx_guardT rfl rfl rfl ?_
   refine mv rfl rfl ?_
   refine sx_guardT rfl rfl rfl ?_
   refine sp rfl (px_ge rfl rfl) ?_
   refine sp rfl (px_pick rfl rfl) ?_
   refine wl_nil (q_n (k14 _ _ ?_))
   refine sx_condP rfl (fun h17x1 => ?_) (fun h17x1 => ?_)
   ·
    refine sx_seq fun K16 k16 => sx_region ?_
    refine av rfl rfl (wl_nil (q_n (k16 _ _ ?_)))
    refine sx_retc ?_
    refine q_br (q_r (q_r (q_br (q_r (sx_ret1 Tryd.results92 rfl ?_)))))
    exact ⟨bFalse (fun h => by have h1 := h.1.getD k; omega), cwl8⟩
   refine sx_skip ?_
   refine q_bn (q_n (k11 _ _ ?_))
   refine sx_region ?_
   refine sp rfl (px_add rfl rfl (by omega)) ?_
   refine mv rfl rfl (wl_nil ?_)
   exact fun a ha => ⟨_, by omega, (k + 1), ha.sub (Sub.c 22 rfl (.c 23 rfl (.c 24 (look_int (t := 24) rfl (by first | omega | simp)) .nil))), cwl8, rfl, by omega, lm_succ hall (by omega)⟩
  refine sx_exit ?_
  refine q_e (q_e (q_bx (q_n (k6 _ _ ?_))))
  refine sx_seq fun K17 k17 => sx_region ?_
  refine av rfl rfl (wl_nil (q_n (k17 _ _ ?_)))
  refine sx_retc ?_
  refine sx_ret1 Tryd.results92 rfl ?_
  have ek : k = zs.length := by omega
  have hz : Lm zs := lm_mem (by rw [← ek]; exact hall)
  exact ⟨bTrue (NOk_mk hz (by omega) (by first | exact .inl (by omega) | exact .inr (by assumption))), cwl8⟩
 refine sx_guardF rfl rfl rfl rfl rfl rfl ?_
 refine sx_guardF rfl rfl rfl rfl rfl rfl ?_
 refine sx_guardF rfl rfl rfl rfl rfl rfl ?_
 refine sx_guardF rfl rfl rfl rfl rfl rfl ?_
 refine sx_guardF rfl rfl rfl rfl rfl rfl ?_
 refine sx_guardF rfl rfl rfl rfl rfl rfl ?_
 refine sx_guardF rfl rfl rfl rfl rfl rfl ?_
 refine sx_guardT rfl rfl rfl ?_
 refine sp rfl (px_pick rfl rfl) ?_
 refine sp rfl (px_pick rfl rfl) ?_
 refine wl_nil (q_n (k3 _ _ ?_))
 refine sx_sub (Sub.c 0 rfl (.c 2 rfl (.c 21 rfl .nil))) ?_
 refine sx_condF rfl ?_
 refine sx_skip ?_
 refine q_n (k2 _ _ ?_)
 refine sx_seq fun K18 k18 => ?_
 refine sx_seq fun K19 k19 => sx_region ?_
 refine mv rfl rfl (sp rfl (px_len rfl Tryd.underlying25 hva0) ?_)
 refine mv rfl rfl (wl_nil (q_n (k19 _ _ ?_)))
 refine sx_block ?_
 refine sx_loop (fun mm aa w' => ∃ (k : Nat), Agr 35 [(22, va), (23, .int .i64 ↑zs.length), (24, .int .i64 ↑k)] aa ∧ Chg 0 0 w w' ∧ (mm = zs.length - k) ∧ (k ≤ zs.length) ∧ (∀ i, i < k → 0 ≤ zs.getD i 0 ∧ zs.getD i 0 < 1000000000)) (_) (fun a ha => ⟨0, ha.sub (Sub.c 22 rfl (.c 23 (look_int (t := 23) rfl (by first | omega | simp)) (.c 24 (look_int (t := 24) rfl (by first | omega | simp)) .nil))), Chg.refl _ _ _, rfl, by omega, fun i h => by omega⟩) ?_
 rintro mm aa wl20 ⟨k, hAwl20, cwl20, hm, hk, hall⟩
 refine (show cw Tryd.prog 35 _ _ _ wl20 from ?_) aa hAwl20
 clear hAwl20
 have zwl20 := cwl20.size
 refine sx_seq fun K21 k21 => sx_region ?_
 refine sp rfl (px_lt rfl rfl) ?_
 refine wl_nil (q_n (k21 _ _ ?_))
 refine sx_seq fun K22 k22 => ?_
 refine sx_condP rfl (fun h16 => ?_) (fun h16 => ?_)
 ·
  refine sx_skip ?_
  refine q_n (k22 _ _ ?_)
  refine sx_seq fun K23 k23 => ?_
  refine sx_block ?_
  refine sx_seq fun K24 k24 => sx_region ?_
  have f25 := hva0.ext cwl20
  refine sp rfl (px_index1 (j := k) rfl rfl (by omega) Tryd.underlying25 Tryd.sizeOf3 f25 (by omega)) ?_
  refine sp rfl (px_load rfl (f25.load1 (at_int (by omega)) Tryd.isAgg3)) ?_
  refine av rfl rfl (wl_nil (q_n (k24 _ _ ?_)))
  refine sx_seq fun K26 k26 => sx_region ?_
  refine mv rfl rfl (sp rfl (px_lt rfl rfl) ?_)
  refine mv rfl rfl ?_
  refine sx_tmpP (t := 30) rfl (fun h17 => ?_) (fun h17 => ?_)
  ·
   refine sx_guardF rfl rfl rfl rfl rfl rfl ?_
   refine sx_guardF rfl rfl rfl rfl rfl rfl ?_
   refine sp rfl (px_pick rfl rfl) ?_
   refine wl_nil (q_n (k26 _ _ ?_))
   refine sx_condT rfl ?_
   refine sx_seq fun K27 k27 => sx_region ?_
   refine av rfl rfl (wl_nil (q_n (k27 _ _ ?_)))
   refine sx_retc ?_
   refine q_br (q_r (q_r (q_br (q_r (sx_ret1 Tryd.results92 rfl ?_)))))
   exact ⟨bFalse (fun h => by have h1 := h.1.getD k; omega), cwl20⟩
  refine sx_guardT rfl rfl rfl ?_
  refine mv rfl rfl ?_
  refine sx_guardT rfl rfl rfl ?_
  refine sp rfl (px_ge rfl rfl) ?_
  refine sp rfl (px_pick rfl rfl) ?_
  refine wl_nil (q_n (k26 _ _ ?_))
  refine sx_condP rfl (fun h17x1 => ?_) (fun h17x1 => ?_)
  ·
   refine sx_seq fun K28 k28 => sx_region ?_
   refine av rfl rfl (wl_nil (q_n (k28 _ _ ?_)))
   refine sx_retc ?_
   refine q_br (q_r (q_r (q_br (q_r (sx_ret1 Tryd.results92 rfl ?_)))))
   exact ⟨bFalse (fun h => by have h1 := h.1.getD k; omega), cwl20⟩
  refine sx_skip ?_
  refine q_bn (q_n (k23 _ _ ?_))
  refine sx_region ?_
  refine sp rfl (px_add rfl rfl (by omega)) ?_
  refine mv rfl rfl (wl_nil ?_)
  exact fun a ha => ⟨_, by omega, (k + 1), ha.sub (Sub.c 22 rfl (.c 23 rfl (.c 24 (look_int (t := 24) rfl (by first | omega | simp)) .nil))), cwl20, rfl, by omega, lm_succ hall (by omega)⟩
 refine sx_exit ?_
 refine q_e (q_e (q_bx (q_n (k18 _ _ ?_))))
 refine sx_seq fun K29 k29 => sx_region ?_
 refine av rfl rfl (wl_nil (q_n (k29 _ _ ?_)))
 refine sx_retc ?_
 refine sx_ret1 Tryd.results92 rfl ?_
 have ek : k = zs.length := by omega
 have hz : Lm zs := lm_mem (by rw [← ek]; exact hall)
 exact ⟨bTrue (NOk_mk hz (by omega) (by first | exact .inl (by omega) | exact .inr (by assumption))), cwl20⟩

theorem c_iIntOk {w : World} {n1 : Bool} {v1 : Value} {lv1 uv1 : Nat} {z1 : List Int} (hv1 : Sl w lv1 uv1 v1 (z1)) (h63 : z1.length ≤ 4611686018427387904) :
  Ret Tryd.prog 86 [.agg #[.bool n1, v1]] w fun v w' => v = .bool (decide (IOk n1 z1)) ∧ Chg 0 0 w w' := by
 have hv10 := hv1.fit
 refine sx_enter Tryd.func86 rfl Tryd.ntmps86 (nbl rfl) ?_
 refine sx_seq fun K1 k1 => sx_region ?_
 refine sx_box [.bool n1, v1] rfl rfl rfl (fun b2 w3 eb2 sb2 fb2 cb2 => ?_)
 have zw3 := cb2.size
 refine av rfl rfl (wl_nil (q_n (k1 _ _ ?_)))
 refine sx_seq fun K4 k4 => sx_region ?_
 refine sp rfl (px_field rfl xfld40x1) ?_
 refine sp rfl (px_load rfl (fb2.load1 rfl Tryd.isAgg25)) ?_
 have f5 := hv10.ext cb2
 refine sx_call rfl rfl Tryd.call92 (c_iNatOk f5 (by omega)) (fun v6 w6 p6 => ?_)
 obtain ⟨rfl, c6⟩ := p6
 have zw6 := c6.size
 refine mv rfl rfl ?_
 refine sx_tmpP (t := 6) rfl (fun h10 => ?_) (fun h10 => ?_)
 ·
  refine sx_guardT rfl rfl rfl ?_
  refine sp rfl (px_field rfl xfld40x0) ?_
  refine sx_guardT rfl rfl rfl ?_
  have f7 := fb2.ext c6
  refine sp rfl (px_load rfl (f7.load1 rfl Tryd.isAgg4)) ?_
  refine sx_guardT rfl rfl rfl ?_
  refine sp rfl (px_not rfl) ?_
  refine sx_guardT rfl rfl rfl ?_
  refine mv rfl rfl ?_
  refine sx_tmpB (t := 10) rfl (fun h10x1 => ?_) (fun h10x1 => ?_)
  ·
   refine sx_guardF rfl rfl rfl rfl rfl rfl ?_
   refine sx_guardF rfl rfl rfl rfl rfl rfl ?_
   refine sx_guardF rfl rfl rfl rfl rfl rfl ?_
   refine sx_guardF rfl rfl rfl rfl rfl rfl ?_
   refine sx_guardT rfl rfl rfl ?_
   refine sp rfl (px_pick rfl rfl) ?_
   refine sp rfl (px_pick rfl rfl) ?_
   refine av rfl rfl (wl_nil (q_n (k4 _ _ ?_)))
   refine sx_sub (Sub.c 2 rfl .nil) ?_
   refine sx_retc ?_
   refine sx_ret1 Tryd.results86 rfl ?_
   exact ⟨(by first | exact bTrue (by grind [IOk]) | exact bFalse (by grind [IOk]) | exact bIff (by grind [IOk])), (cb2.t c6)⟩
  refine sx_guardT rfl rfl rfl ?_
  refine sp rfl (px_field rfl xfld40x1) ?_
  refine sx_guardT rfl rfl rfl ?_
  refine sp rfl (px_load rfl (f7.load1 rfl Tryd.isAgg25)) ?_
  refine sx_guardT rfl rfl rfl ?_
  have f8 := f5.ext c6
  refine sp rfl (px_len rfl Tryd.underlying25 f8) ?_
  refine sx_guardT rfl rfl rfl ?_
  refine sp rfl (px_gt rfl rfl) ?_
  refine sx_guardT rfl rfl rfl ?_
  refine sp rfl (px_pick rfl rfl) ?_
  refine sp rfl (px_pick rfl rfl) ?_
  refine av rfl rfl (wl_nil (q_n (k4 _ _ ?_)))
  refine sx_sub (Sub.c 2 rfl .nil) ?_
  refine sx_retc ?_
  refine sx_ret1 Tryd.results86 rfl ?_
  exact ⟨(by first | exact bTrue (by grind [IOk]) | exact bFalse (by grind [IOk]) | exact bIff (by grind [IOk])), (cb2.t c6)⟩
 refine sx_guardF rfl rfl rfl rfl rfl rfl ?_
 refine sx_guardF rfl rfl rfl rfl rfl rfl ?_
 refine sx_guardF rfl rfl rfl rfl rfl rfl ?_
 refine sx_guardF rfl rfl rfl rfl rfl rfl ?_
 refine sx_guardFU rfl rfl rfl rfl rfl ?_
 refine sx_guardFU rfl rfl rfl rfl rfl ?_
 refine sx_guardFU rfl rfl rfl rfl rfl ?_
 refine sx_guardFU rfl rfl rfl rfl rfl ?_
 refine sx_guardF rfl rfl rfl rfl rfl rfl ?_
 refine sp rfl (px_pick rfl rfl) ?_
 refine av rfl rfl (wl_nil (q_n (k4 _ _ ?_)))
 refine sx_sub (Sub.c 2 rfl .nil) ?_
 refine sx_retc ?_
 refine sx_ret1 Tryd.results86 rfl ?_
 exact ⟨(by first | exact bTrue (by grind [IOk]) | exact bFalse (by grind [IOk]) | exact bIff (by grind [IOk])), (cb2.t c6)⟩

theorem c_isScale {w : World} {p : Int} :
  Ret Tryd.prog 87 [.int .i64 p] w fun v w' => v = .bool (decide (0 ≤ p ∧ p ≤ 30)) ∧ Chg 0 0 w w' := by
 refine sx_enter Tryd.func87 rfl Tryd.ntmps87 (nbl rfl) ?_
 refine sx_seq fun K1 k1 => sx_region ?_
 refine av rfl rfl (wl_nil (q_n (k1 _ _ ?_)))
 refine sx_seq fun K2 k2 => sx_region ?_
 refine mv rfl rfl (sp rfl (px_ge rfl rfl) ?_)
 refine mv rfl rfl ?_
 refine sx_tmpP (t := 5) rfl (fun h15 => ?_) (fun h15 => ?_)
 ·
  refine sx_guardT rfl rfl rfl ?_
  refine mv rfl rfl ?_
  refine sx_guardT rfl rfl rfl ?_
  refine sp rfl (px_le rfl rfl) ?_
  refine sp rfl (px_pick rfl rfl) ?_
  refine av rfl rfl (wl_nil (q_n (k2 _ _ ?_)))
  refine sx_retc ?_
  refine sx_ret1 Tryd.results87 rfl ?_
  exact ⟨(by first | exact bTrue (by grind) | exact bFalse (by grind) | exact bIff (by grind)), (Chg.refl 0 0 _)⟩
 refine sx_guardF rfl rfl rfl rfl rfl rfl ?_
 refine sx_guardF rfl rfl rfl rfl rfl rfl ?_
 refine sp rfl (px_pick rfl rfl) ?_
 refine av rfl rfl (wl_nil (q_n (k2 _ _ ?_)))
 refine sx_retc ?_
 refine sx_ret1 Tryd.results87 rfl ?_
 exact ⟨(by first | exact bTrue (by grind) | exact bFalse (by grind) | exact bIff (by grind)), (Chg.refl 0 0 _)⟩

theorem c_iDecOk {w : World} {n1 : Bool} {v1 : Value} {lv1 uv1 : Nat} {z1 : List Int} {p1 : Int} (hv1 : Sl w lv1 uv1 v1 (z1)) (h63 : z1.length ≤ 4611686018427387904) :
  Ret Tryd.prog 55 [.agg #[.bool n1, v1, .int .i64 p1]] w fun v w' => v = .bool (decide (DOk n1 z1 p1)) ∧ Chg 0 0 w w' := by
 have hv10 := hv1.fit
 refine sx_enter Tryd.func55 rfl Tryd.ntmps55 (nbl rfl) ?_
 refine sx_seq fun K1 k1 => sx_region ?_
 refine sx_box [.bool n1, v1, .int .i64 p1] rfl rfl rfl (fun b2 w3 eb2 sb2 fb2 cb2 => ?_)
 have zw3 := cb2.size
 refine av rfl rfl (wl_nil (q_n (k1 _ _ ?_)))
 refine sx_seq fun K4 k4 => sx_region ?_
 refine sp rfl (px_field rfl xfld42x0) ?_
 refine sp rfl (px_load rfl (fb2.loadA (vs := [.bool n1, v1]) (look_lit rfl) Tryd.isAgg40 Tryd.sizeOf40)) ?_
 have f5 := hv10.ext cb2
 refine sx_call rfl rfl Tryd.call86 (c_iIntOk f5 (by omega)) (fun v6 w6 p6 => ?_)
 obtain ⟨rfl, c6⟩ := p6
 have zw6 := c6.size
 refine mv rfl rfl ?_
 refine sx_tmpP (t := 6) rfl (fun h18 => ?_) (fun h18 => ?_)
 ·
  refine sx_guardT rfl rfl rfl ?_
  refine sp rfl (px_field rfl xfld42x0) ?_
  refine sx_guardT rfl rfl rfl ?_
  refine sp rfl (px_field rfl xfld40x1) ?_
  refine sx_guardT rfl rfl rfl ?_
  have f7 := fb2.ext c6
  refine sp rfl (px_load rfl (f7.load1 rfl Tryd.isAgg25)) ?_
  refine sx_guardT rfl rfl rfl ?_
  have f8 := f5.ext c6
  refine sp rfl (px_len rfl Tryd.underlying25 f8) ?_
  refine sx_guardT rfl rfl rfl ?_
  refine sp rfl (px_le rfl rfl) ?_
  refine sp rfl (px_pick rfl rfl) ?_
  refine mv rfl rfl ?_
  refine sx_tmpP (t := 13) rfl (fun h18x1 => ?_) (fun h18x1 => ?_)
  ·
   refine sx_guardT rfl rfl rfl ?_
   refine sp rfl (px_field rfl xfld42x1) ?_
   refine sx_guardT rfl rfl rfl ?_
   refine sp rfl (px_load rfl (f7.load1 rfl Tryd.isAgg3)) ?_
   refine sx_guardT rfl rfl rfl ?_
   refine sx_call rfl rfl Tryd.call87 (c_isScale) (fun v9 w9 p9 => ?_)
   obtain ⟨rfl, c9⟩ := p9
   have zw9 := c9.size
   refine sp rfl (px_pick rfl rfl) ?_
   refine av rfl rfl (wl_nil (q_n (k4 _ _ ?_)))
   refine sx_sub (Sub.c 2 rfl .nil) ?_
   refine sx_retc ?_
   refine sx_ret1 Tryd.results55 rfl ?_
   exact ⟨(by first | exact bTrue (by grind [DOk]) | exact bFalse (by grind [DOk]) | exact bIff (by grind [DOk])), ((cb2.t c6).t c9)⟩
  refine sx_guardF rfl rfl rfl rfl rfl rfl ?_
  refine sx_guardF rfl rfl rfl rfl rfl rfl ?_
  refine sx_guardF rfl rfl rfl rfl rfl rfl ?_
  refine sp rfl (px_pick rfl rfl) ?_
  refine av rfl rfl (wl_nil (q_n (k4 _ _ ?_)))
  refine sx_sub (Sub.c 2 rfl .nil) ?_
  refine sx_retc ?_
  refine sx_ret1 Tryd.results55 rfl ?_
  exact ⟨(by first | exact bTrue (by grind [DOk]) | exact bFalse (by grind [DOk]) | exact bIff (by grind [DOk])), (cb2.t c6)⟩
 refine sx_guardF rfl rfl rfl rfl rfl rfl ?_
 refine sx_guardF rfl rfl rfl rfl rfl rfl ?_
 refine sx_guardF rfl rfl rfl rfl rfl rfl ?_
 refine sx_guardF rfl rfl rfl rfl rfl rfl ?_
 refine sx_guardF rfl rfl rfl rfl rfl rfl ?_
 refine sp rfl (px_pick rfl rfl) ?_
 refine mv rfl rfl ?_
 refine sx_guardF rfl rfl rfl rfl rfl rfl ?_
 refine sx_guardF rfl rfl rfl rfl rfl rfl ?_
 refine sx_guardF rfl rfl rfl rfl rfl rfl ?_
 refine sp rfl (px_pick rfl rfl) ?_
 refine av rfl rfl (wl_nil (q_n (k4 _ _ ?_)))
 refine sx_sub (Sub.c 2 rfl .nil) ?_
 refine sx_retc ?_
 refine sx_ret1 Tryd.results55 rfl ?_
 exact ⟨(by first | exact bTrue (by grind [DOk]) | exact bFalse (by grind [DOk]) | exact bIff (by grind [DOk])), (cb2.t c6)⟩

theorem c_intSign {w : World} {va : Value} {lva uva : Nat} {x : Int} (hva : Sl w lva uva va (dg x.natAbs)) (hbx : (dg x.natAbs).length ≤ 1000) :
  Ret Tryd.prog 63 [.agg #[.bool (ng x), va]] w fun v w' => v = .int .i64 ((x).sign) ∧ Chg 0 0 w w' := by
 have hva0 := hva.fit
 refine sx_enter Tryd.func63 rfl Tryd.ntmps63 (nbl rfl) ?_
 refine sx_seq fun K1 k1 => sx_region ?_
 refine sx_box [.bool (ng x), va] rfl rfl rfl (fun b2 w3 eb2 sb2 fb2 cb2 => ?_)
 have zw3 := cb2.size
 refine av rfl rfl (wl_nil (q_n (k1 _ _ ?_)))
 refine sx_seq fun K4 k4 => ?_
 refine sx_block ?_
 refine sx_seq fun K5 k5 => sx_region ?_
 refine sp rfl (px_field rfl xfld40x1) ?_
 refine sp rfl (px_load rfl (fb2.load1 rfl Tryd.isAgg25)) ?_
 have f6 := hva0.ext cb2
 refine sp rfl (px_len rfl Tryd.underlying25 f6) ?_
 refine sp rfl (px_eq rfl rfl) ?_
 refine av rfl rfl (wl_nil (q_n (k5 _ _ ?_)))
 refine sx_condP rfl (fun h101 => ?_) (fun h101 => ?_)
 ·
  refine sx_seq fun K7 k7 => sx_region ?_
  refine av rfl rfl (wl_nil (q_n (k7 _ _ ?_)))
  refine sx_retc ?_
  refine q_br (q_r (sx_ret1 Tryd.results63 rfl ?_))
  exact ⟨(by rw [sign_z (by omega)]), cb2⟩
 refine sx_seq fun K8 k8 => sx_region ?_
 refine sp rfl (px_field rfl xfld40x0) ?_
 refine sp rfl (px_load rfl (fb2.load1 rfl Tryd.isAgg4)) ?_
 refine av rfl rfl (wl_nil (q_n (k8 _ _ ?_)))
 refine sx_condB rfl (fun h103 => ?_) (fun h103 => ?_)
 ·
  refine sx_seq fun K9 k9 => sx_region ?_
  refine av rfl rfl (wl_nil (q_n (k9 _ _ ?_)))
  refine sx_retc ?_
  refine q_br (q_r (sx_ret1 Tryd.results63 rfl ?_))
  exact ⟨(by rw [sign_n h103]), cb2⟩
 refine sx_skip ?_
 refine q_bn (q_n (k4 _ _ ?_))
 refine sx_seq fun K10 k10 => sx_region ?_
 refine av rfl rfl (wl_nil (q_n (k10 _ _ ?_)))
 refine sx_retc ?_
 refine sx_ret1 Tryd.results63 rfl ?_
 exact ⟨(by rw [sign_p (by omega) h103]), cb2⟩

theorem c_iRateOk {w : World} {f1 : ByteArray} {t1 : ByteArray} {n1 : Bool} {v1 : Value} {lv1 uv1 : Nat} {z1 : List Int} {p1 : Int} (hG0 : Glob w) (hv1 : Sl w lv1 uv1 v1 (z1)) (h63 : z1.length ≤ 4611686018427387904) :
  Ret Tryd.prog 37 [.agg #[.string f1, .string t1, .bool n1, v1, .int .i64 p1]] w fun v w' => v = .bool (decide (RateP f1 t1 n1 z1 p1)) ∧ Chg 0 0 w w' := by
 have hv10 := hv1.fit
 refine sx_enter Tryd.func37 rfl Tryd.ntmps37 (nbl rfl) ?_
 refine sx_seq fun K1 k1 => sx_region ?_
 refine sx_box [.string f1, .string t1, .bool n1, v1, .int .i64 p1] rfl rfl rfl (fun b2 w3 eb2 sb2 fb2 cb2 => ?_)
 have zw3 := cb2.size
 refine av rfl rfl (wl_nil (q_n (k1 _ _ ?_)))
 refine sx_seq fun K4 k4 => sx_region ?_
 refine sp rfl (px_field rfl xfld44x0) ?_
 refine sp rfl (px_load rfl (fb2.load1 rfl Tryd.isAgg9)) ?_
 have f5 := hG0.ext cb2
 refine sx_call rfl rfl Tryd.call50 (c_iCurKnown f5) (fun v6 w6 p6 => ?_)
 obtain ⟨rfl, c6⟩ := p6
 have zw6 := c6.size
 refine mv rfl rfl ?_
 refine sx_tmpP (t := 6) rfl (fun h36 => ?_) (fun h36 => ?_)
 ·
  refine sx_guardT rfl rfl rfl ?_
  refine sp rfl (px_field rfl xfld44x1) ?_
  refine sx_guardT rfl rfl rfl ?_
  have f7 := fb2.ext c6
  refine sp rfl (px_load rfl (f7.load1 rfl Tryd.isAgg9)) ?_
  refine sx_guardT rfl rfl rfl ?_
  have f8 := f5.ext c6
  refine sx_call rfl rfl Tryd.call50 (c_iCurKnown f8) (fun v9 w9 p9 => ?_)
  obtain ⟨rfl, c9⟩ := p9
  have zw9 := c9.size
  refine sp rfl (px_pick rfl rfl) ?_
  refine mv rfl rfl ?_
  refine sx_tmpP (t := 11) rfl (fun h36x1 => ?_) (fun h36x1 => ?_)
  ·
   refine sx_guardT rfl rfl rfl ?_
   refine sp rfl (px_field rfl xfld44x0) ?_
   refine sx_guardT rfl rfl rfl ?_
   have f10 := f7.ext c9
   refine sp rfl (px_load rfl (f10.load1 rfl Tryd.isAgg9)) ?_
   refine sx_guardT rfl rfl rfl ?_
   refine sp rfl (px_field rfl xfld44x1) ?_
   refine sx_guardT rfl rfl rfl ?_
   refine sp rfl (px_load rfl (f10.load1 rfl Tryd.isAgg9)) ?_
   refine sx_guardT rfl rfl rfl ?_
   refine sp rfl (px_neS rfl rfl) ?_
   refine sp rfl (px_pick rfl rfl) ?_
   refine mv rfl rfl ?_
   refine sx_tmpP (t := 18) rfl (fun h36x2 => ?_) (fun h36x2 => ?_)
   ·
    refine sx_guardT rfl rfl rfl ?_
    refine sp rfl (px_field rfl xfld44x2) ?_
    refine sx_guardT rfl rfl rfl ?_
    refine sp rfl (px_load rfl (f10.loadA (vs := [.bool n1, v1, .int .i64 p1]) (look_lit rfl) Tryd.isAgg42 Tryd.sizeOf42)) ?_
    refine sx_guardT rfl rfl rfl ?_
    have f11 := hv10.ext cb2
    have f13 := (f11.ext c6).ext c9
    refine sx_call rfl rfl Tryd.call55 (c_iDecOk f13 (by omega)) (fun v14 w14 p14 => ?_)
    obtain ⟨rfl, c14⟩ := p14
    have zw14 := c14.size
    refine sp rfl (px_pick rfl rfl) ?_
    refine mv rfl rfl ?_
    refine sx_tmpP (t := 23) rfl (fun h36x3 => ?_) (fun h36x3 => ?_)
    ·
     have hD := h36x3
     obtain ⟨x1, rfl, rfl, hx1⟩ := hD.int
     have hvx := vI_ng x1
     have hsx := sign_gt (x := x1)
     have hcx := cmpI_gt0 (x := x1)
     refine sx_guardT rfl rfl rfl ?_
     refine sp rfl (px_field rfl xfld44x2) ?_
     refine sx_guardT rfl rfl rfl ?_
     refine sp rfl (px_field rfl xfld42x0) ?_
     refine sx_guardT rfl rfl rfl ?_
     have f15 := f10.ext c14
     refine sp rfl (px_load rfl (f15.loadA (vs := [.bool (ng x1), v1]) (look_lit rfl) Tryd.isAgg40 Tryd.sizeOf40)) ?_
     refine sx_guardT rfl rfl rfl ?_
     have f16 := f13.ext c14
     refine sx_call rfl rfl Tryd.call63 (c_intSign f16 (by omega)) (fun v17 w17 p17 => ?_)
     obtain ⟨rfl, c17⟩ := p17
     have zw17 := c17.size
     refine sx_guardT rfl rfl rfl ?_
     refine sp rfl (px_gt rfl rfl) ?_
     refine sp rfl (px_pick rfl rfl) ?_
     refine mv rfl rfl ?_
     refine sx_tmpP (t := 30) rfl (fun h36x4 => ?_) (fun h36x4 => ?_)
     ·
      refine sx_guardT rfl rfl rfl ?_
      refine sp rfl (px_field rfl xfld44x2) ?_
      refine sx_guardT rfl rfl rfl ?_
      refine sp rfl (px_field rfl xfld42x0) ?_
      refine sx_guardT rfl rfl rfl ?_
      refine sp rfl (px_field rfl xfld40x1) ?_
      refine sx_guardT rfl rfl rfl ?_
      have f18 := f15.ext c17
      refine sp rfl (px_load rfl (f18.load1 rfl Tryd.isAgg25)) ?_
      refine sx_guardT rfl rfl rfl ?_
      have f19 := f16.ext c17
      refine sp rfl (px_len rfl Tryd.underlying25 f19) ?_
      refine sx_guardT rfl rfl rfl ?_
      refine sp rfl (px_le rfl rfl) ?_
      refine sp rfl (px_pick rfl rfl) ?_
      refine av rfl rfl (wl_nil (q_n (k4 _ _ ?_)))
      refine sx_sub (Sub.c 2 rfl .nil) ?_
      refine sx_retc ?_
      refine sx_ret1 Tryd.results37 rfl ?_
      exact ⟨(by first | exact bTrue (by grind [RateP]) | exact bFalse (by grind [RateP]) | exact bIff (by grind [RateP])), ((((cb2.t c6).t c9).t c14).t c17)⟩
     refine sx_guardF rfl rfl rfl rfl rfl rfl ?_
     refine sx_guardF rfl rfl rfl rfl rfl rfl ?_
     refine sx_guardF rfl rfl rfl rfl rfl rfl ?_
     refine sx_guardF rfl rfl rfl rfl rfl rfl ?_
     refine sx_guardF rfl rfl rfl rfl rfl rfl ?_
     refine sx_guardF rfl rfl rfl rfl rfl rfl ?_
     refine sp rfl (px_pick rfl rfl) ?_
     refine av rfl rfl (wl_nil (q_n (k4 _ _ ?_)))
     refine sx_sub (Sub.c 2 rfl .nil) ?_
     refine sx_retc ?_
     refine sx_ret1 Tryd.results37 rfl ?_
     exact ⟨(by first | exact bTrue (by grind [RateP]) | exact bFalse (by grind [RateP]) | exact bIff (by grind [RateP])), ((((cb2.t c6).t c9).t c14).t c17)⟩
    refine sx_guardF rfl rfl rfl rfl rfl rfl ?_
    refine sx_guardF rfl rfl rfl rfl rfl rfl ?_
    refine sx_guardF rfl rfl rfl rfl rfl rfl ?_
    refine sx_guardF rfl rfl rfl rfl rfl rfl ?_
    refine sx_guardF rfl rfl rfl rfl rfl rfl ?_
    refine sp rfl (px_pick rfl rfl) ?_
    refine mv rfl rfl ?_
    refine sx_guardF rfl rfl rfl rfl rfl rfl ?_
    refine sx_guardF rfl rfl rfl rfl rfl rfl ?_
    refine sx_guardF rfl rfl rfl rfl rfl rfl ?_
    refine sx_guardF rfl rfl rfl rfl rfl rfl ?_
    refine sx_guardF rfl rfl rfl rfl rfl rfl ?_
    refine sx_guardF rfl rfl rfl rfl rfl rfl ?_
    refine sp rfl (px_pick rfl rfl) ?_
    refine av rfl rfl (wl_nil (q_n (k4 _ _ ?_)))
    refine sx_sub (Sub.c 2 rfl .nil) ?_
    refine sx_retc ?_
    refine sx_ret1 Tryd.results37 rfl ?_
    exact ⟨(by first | exact bTrue (by grind [RateP]) | exact bFalse (by grind [RateP]) | exact bIff (by grind [RateP])), (((cb2.t c6).t c9).t c14)⟩
   refine sx_guardF rfl rfl rfl rfl rfl rfl ?_
   refine sx_guardF rfl rfl rfl rfl rfl rfl ?_
   refine sx_guardF rfl rfl rfl rfl rfl rfl ?_
   refine sp rfl (px_pick rfl rfl) ?_
   refine mv rfl rfl ?_
   refine sx_guardF rfl rfl rfl rfl rfl rfl ?_
   refine sx_guardF rfl rfl rfl rfl rfl rfl ?_
   refine sx_guardF rfl rfl rfl rfl rfl rfl ?_
   refine sx_guardF rfl rfl rfl rfl rfl rfl ?_
   refine sx_guardF rfl rfl rfl rfl rfl rfl ?_
   refine sp rfl (px_pick rfl rfl) ?_
   refine mv rfl rfl ?_
   refine sx_guardF rfl rfl rfl rfl rfl rfl ?_
   refine sx_guardF rfl rfl rfl rfl rfl rfl ?_
   refine sx_guardF rfl rfl rfl rfl rfl rfl ?_
   refine sx_guardF rfl rfl rfl rfl rfl rfl ?_
   refine sx_guardF rfl rfl rfl rfl rfl rfl ?_
   refine sx_guardF rfl rfl rfl rfl rfl rfl ?_
   refine sp rfl (px_pick rfl rfl) ?_
   refine av rfl rfl (wl_nil (q_n (k4 _ _ ?_)))
   refine sx_sub (Sub.c 2 rfl .nil) ?_
   refine sx_retc ?_
   refine sx_ret1 Tryd.results37 rfl ?_
   exact ⟨(by first | exact bTrue (by grind [RateP]) | exact bFalse (by grind [RateP]) | exact bIff (by grind [RateP])), ((cb2.t c6).t c9)⟩
  refine sx_guardF rfl rfl rfl rfl rfl rfl ?_
  refine sx_guardF rfl rfl rfl rfl rfl rfl ?_
  refine sx_guardF rfl rfl rfl rfl rfl rfl ?_
  refine sx_guardF rfl rfl rfl rfl rfl rfl ?_
  refine sx_guardF rfl rfl rfl rfl rfl rfl ?_
  refine sp rfl (px_pick rfl rfl) ?_
  refine mv rfl rfl ?_
  refine sx_guardF rfl rfl rfl rfl rfl rfl ?_
  refine sx_guardF rfl rfl rfl rfl rfl rfl ?_
  refine sx_guardF rfl rfl rfl rfl rfl rfl ?_
  refine sp rfl (px_pick rfl rfl) ?_
  refine mv rfl rfl ?_
  refine sx_guardF rfl rfl rfl rfl rfl rfl ?_
  refine sx_guardF rfl rfl rfl rfl rfl rfl ?_
  refine sx_guardF rfl rfl rfl rfl rfl rfl ?_
  refine sx_guardF rfl rfl rfl rfl rfl rfl ?_
  refine sx_guardF rfl rfl rfl rfl rfl rfl ?_
  refine sp rfl (px_pick rfl rfl) ?_
  refine mv rfl rfl ?_
  refine sx_guardF rfl rfl rfl rfl rfl rfl ?_
  refine sx_guardF rfl rfl rfl rfl rfl rfl ?_
  refine sx_guardF rfl rfl rfl rfl rfl rfl ?_
  refine sx_guardF rfl rfl rfl rfl rfl rfl ?_
  refine sx_guardF rfl rfl rfl rfl rfl rfl ?_
  refine sx_guardF rfl rfl rfl rfl rfl rfl ?_
  refine sp rfl (px_pick rfl rfl) ?_
  refine av rfl rfl (wl_nil (q_n (k4 _ _ ?_)))
  refine sx_sub (Sub.c 2 rfl .nil) ?_
  refine sx_retc ?_
  refine sx_ret1 Tryd.results37 rfl ?_
  exact ⟨(by first | exact bTrue (by grind [RateP]) | exact bFalse (by grind [RateP]) | exact bIff (by grind [RateP])), ((cb2.t c6).t c9)⟩
 refine sx_guardF rfl rfl rfl rfl rfl rfl ?_
 refine sx_guardF rfl rfl rfl rfl rfl rfl ?_
 refine sx_guardF rfl rfl rfl rfl rfl rfl ?_
 refine sp rfl (px_pick rfl rfl) ?_
 refine mv rfl rfl ?_
 refine sx_guardF rfl rfl rfl rfl rfl rfl ?_
 refine sx_guardF rfl rfl rfl rfl rfl rfl ?_
 refine sx_guardF rfl rfl rfl rfl rfl rfl ?_
 refine sx_guardF rfl rfl rfl rfl rfl rfl ?_
 refine sx_guardF rfl rfl rfl rfl rfl rfl ?_
 refine sp rfl (px_pick rfl rfl) ?_
 refine mv rfl rfl ?_
 refine sx_guardF rfl rfl rfl rfl rfl rfl ?_
 refine sx_guardF rfl rfl rfl rfl rfl rfl ?_
 refine sx_guardF rfl rfl rfl rfl rfl rfl ?_
 refine sp rfl (px_pick rfl rfl) ?_
 refine mv rfl rfl ?_
 refine sx_guardF rfl rfl rfl rfl rfl rfl ?_
 refine sx_guardF rfl rfl rfl rfl rfl rfl ?_
 refine sx_guardF rfl rfl rfl rfl rfl rfl ?_
 refine sx_guardF rfl rfl rfl rfl rfl rfl ?_
 refine sx_guardF rfl rfl rfl rfl rfl rfl ?_
 refine sp rfl (px_pick rfl rfl) ?_
 refine mv rfl rfl ?_
 refine sx_guardF rfl rfl rfl rfl rfl rfl ?_
 refine sx_guardF rfl rfl rfl rfl rfl rfl ?_
 refine sx_guardF rfl rfl rfl rfl rfl rfl ?_
 refine sx_guardF rfl rfl rfl rfl rfl rfl ?_
 refine sx_guardF rfl rfl rfl rfl rfl rfl ?_
 refine sx_guardF rfl rfl rfl rfl rfl rfl ?_
 refine sp rfl (px_pick rfl rfl) ?_
 refine av rfl rfl (wl_nil (q_n (k4 _ _ ?_)))
 refine sx_sub (Sub.c 2 rfl .nil) ?_
 refine sx_retc ?_
 refine sx_ret1 Tryd.results37 rfl ?_
 exact ⟨(by first | exact bTrue (by grind [RateP]) | exact bFalse (by grind [RateP]) | exact bIff (by grind [RateP])), (cb2.t c6)⟩

theorem c_iRatesOk {w : World} {pv : ByteArray} {vt : Value} {lvt uvt : Nat} {ts : List Rt} {vvt : List Value} (hG0 : Glob w) (hvt : RtS w lvt uvt vt ts vvt) (h63 : ts.length ≤ 4611686018427387904) (hz : ∀ i, i < ts.length → (ts.getD i rt0).2.2.2.1.length ≤ 4611686018427387904) :
  Ret Tryd.prog 36 [.agg #[.string pv, vt]] w fun v w' => v = .bool (decide (RsOk pv ts)) ∧ Chg 0 0 w w' := by
 have hvt0 := hvt.fit
 refine sx_enter Tryd.func36 rfl Tryd.ntmps36 (nbl rfl) ?_
 refine sx_seq fun K1 k1 => sx_region ?_
 refine sx_box [.string pv, vt] rfl rfl rfl (fun b2 w3 eb2 sb2 fb2 cb2 => ?_)
 have zw3 := cb2.size
 refine av rfl rfl (wl_nil (q_n (k1 _ _ ?_)))
 refine sx_seq fun K4 k4 => ?_
 refine sx_seq fun K5 k5 => sx_region ?_
 refine sp rfl (px_field rfl xfld36x0) ?_
 refine sp rfl (px_load rfl (fb2.load1 rfl Tryd.isAgg9)) ?_
 have f6 := hG0.ext cb2
 refine sx_call rfl rfl Tryd.call50 (c_iCurKnown f6) (fun v7 w7 p7 => ?_)
 obtain ⟨rfl, c7⟩ := p7
 have zw7 := c7.size
 refine sp rfl (px_notP rfl) ?_
 refine mv rfl rfl ?_
 refine sx_tmpP (t := 11) rfl (fun h41 => ?_) (fun h41 => ?_)
 ·
  refine sx_guardF rfl rfl rfl rfl rfl rfl ?_
  refine sx_guardF rfl rfl rfl rfl rfl rfl ?_
  refine sx_guardF rfl rfl rfl rfl rfl rfl ?_
  refine sx_guardF rfl rfl rfl rfl rfl rfl ?_
  refine sp rfl (px_pick rfl rfl) ?_
  refine wl_nil (q_n (k5 _ _ ?_))
  refine sx_condT rfl ?_
  refine sx_seq fun K8 k8 => sx_region ?_
  refine av rfl rfl (wl_nil (q_n (k8 _ _ ?_)))
  refine sx_retc ?_
  refine q_r (sx_ret1 Tryd.results36 rfl ?_)
  exact ⟨bFalse (fun h => by first | exact absurd h.1 (by assumption) | (have := h.2.1; omega)), (cb2.t c7)⟩
 refine sx_guardT rfl rfl rfl ?_
 refine sp rfl (px_field rfl xfld36x1) ?_
 refine sx_guardT rfl rfl rfl ?_
 have f9 := fb2.ext c7
 refine sp rfl (px_load rfl (f9.load1 rfl Tryd.isAgg34)) ?_
 refine sx_guardT rfl rfl rfl ?_
 have f10 := hvt0.ext cb2
 have f11 := f10.ext c7
 refine sp rfl (px_len rfl Tryd.underlying34 f11.sv) ?_
 refine sx_guardT rfl rfl rfl ?_
 refine sp rfl (px_gt rfl rfl) ?_
 refine sp rfl (px_pick rfl rfl) ?_
 refine wl_nil (q_n (k5 _ _ ?_))
 refine sx_condP rfl (fun h41x1 => ?_) (fun h41x1 => ?_)
 ·
  refine sx_seq fun K12 k12 => sx_region ?_
  refine av rfl rfl (wl_nil (q_n (k12 _ _ ?_)))
  refine sx_retc ?_
  refine q_r (sx_ret1 Tryd.results36 rfl ?_)
  exact ⟨bFalse (fun h => by first | exact absurd h.1 (by assumption) | (have := h.2.1; omega)), (cb2.t c7)⟩
 refine sx_skip ?_
 refine q_n (k4 _ _ ?_)
 refine sx_seq fun K13 k13 => sx_region ?_
 refine sx_makeMap rfl (fun b14 w15 eb14 sb14 fb14 cb14 => ?_)
 have zw15 := cb14.size
 refine av rfl rfl (wl_nil (q_n (k13 _ _ ?_)))
 refine sx_sub (Sub.c 1 rfl (.c 2 rfl (.c 3 rfl .nil))) ?_
 refine sx_seq fun K16 k16 => ?_
 refine sx_seq fun K17 k17 => sx_region ?_
 refine sp rfl (px_field rfl xfld36x1) ?_
 have f18 := f9.ext cb14
 refine sp rfl (px_load rfl (f18.load1 rfl Tryd.isAgg34)) ?_
 have f19 := f11.ext cb14
 refine sp rfl (px_len rfl Tryd.underlying34 f19.sv) ?_
 refine mv rfl rfl (wl_nil (q_n (k17 _ _ ?_)))
 refine sx_block ?_
 refine sx_loop (fun mm aa w' => ∃ (k : Nat), Agr 41 [(3, .map (some b14)), (19, vt), (20, .int .i64 (↑(ts).length)), (21, .int .i64 ↑k)] aa ∧ Chg b14 (b14 + 1) w15 w' ∧ Mp w' b14 (keysTo ts k) ∧ (mm = ts.length - k) ∧ (k ≤ ts.length) ∧ (AllTo ts k)) (_) (fun a ha => ⟨0, ha.sub (Sub.c 3 rfl (.c 19 rfl (.c 20 (look_int (t := 20) rfl (by first | omega | simp)) (.c 21 (look_int (t := 21) rfl (by first | omega | simp)) .nil)))), Chg.refl _ _ _, (by rw [show keysTo ts 0 = [] by simp [keysTo]]; exact fb14), rfl, by omega, AllTo_zero ts⟩) ?_
 rintro mm aa wl20 ⟨k, hAwl20, cwl20, hs_Mb14, hm, hk, hall⟩
 refine (show cw Tryd.prog 41 _ _ _ wl20 from ?_) aa hAwl20
 clear hAwl20
 have zwl20 := cwl20.size
 refine sx_seq fun K21 k21 => sx_region ?_
 refine sp rfl (px_lt rfl rfl) ?_
 refine wl_nil (q_n (k21 _ _ ?_))
 refine sx_seq fun K22 k22 => ?_
 refine sx_condP rfl (fun h45 => ?_) (fun h45 => ?_)
 ·
  refine sx_skip ?_
  refine q_n (k22 _ _ ?_)
  refine sx_seq fun K23 k23 => ?_
  refine sx_block ?_
  refine sx_seq fun K24 k24 => sx_region ?_
  have f25 := f19.chg cwl20 (by omega)
  refine sp rfl (px_indexK (j := k) rfl rfl (by omega) Tryd.underlying34 Tryd.sizeOf44 f25.sv (by omega)) ?_
  refine sp rfl (px_load rfl (f25.sv.loadA (rt_look f25.len (by omega)) Tryd.isAgg44 Tryd.sizeOf44)) ?_
  refine sx_alloc [.string (⟨#[]⟩), .string (⟨#[]⟩), .bool false, (.slice none 0 0), .int .i64 0] rfl Tryd.zeroValue44 rfl (fun b26 w27 eb26 sb26 fb26 cb26 => ?_)
  have zw27 := cb26.size
  have f29 := (f25.nest k (by omega)).ext cb26
  refine sx_store (vs := [.string ((ts.getD k rt0).1), .string ((ts.getD k rt0).2.1), .bool ((ts.getD k rt0).2.2.1), (vvt.getD k vz), .int .i64 ((ts.getD k rt0).2.2.2.2)]) rfl rfl fb26 rfl Tryd.sizeOf44 (nbl rfl) (one_cons rfl (one_cons rfl (one_cons rfl (one_cons f29.one (o1 rfl))))) (fun w28 sw28 fw28 cw28 => ?_)
  have zw28 := cw28.size
  have gw28 : Blk w28 b26 [.string ((ts.getD k rt0).1), .string ((ts.getD k rt0).2.1), .bool ((ts.getD k rt0).2.2.1), (vvt.getD k vz), .int .i64 ((ts.getD k rt0).2.2.2.2)] 44 := fw28
  refine wl_nil (q_n (k24 _ _ ?_))
  refine sx_seq fun K30 k30 => sx_region ?_
  refine sp rfl (px_field rfl xfld44x0) ?_
  refine sp rfl (px_load rfl (gw28.load1 rfl Tryd.isAgg9)) ?_
  refine sp rfl (px_field rfl xfld44x1) ?_
  refine sp rfl (px_load rfl (gw28.load1 rfl Tryd.isAgg9)) ?_
  refine sp rfl (px_build rfl (xbld90x0x1 rfl rfl _)) ?_
  refine sx_alloc [.string (⟨#[]⟩), .string (⟨#[]⟩)] rfl Tryd.zeroValue90 rfl (fun b31 w32 eb31 sb31 fb31 cb31 => ?_)
  have zw32 := cb31.size
  refine sx_store (vs := [.string ((ts.getD k rt0).1), .string ((ts.getD k rt0).2.1)]) rfl rfl fb31 rfl Tryd.sizeOf90 (nbl rfl) (o2 rfl rfl) (fun w33 sw33 fw33 cw33 => ?_)
  have zw33 := cw33.size
  have gw33 : Blk w33 b31 [.string ((ts.getD k rt0).1), .string ((ts.getD k rt0).2.1)] 90 := fw33
  refine wl_nil (q_n (k30 _ _ ?_))
  refine sx_seq fun K34 k34 => ?_
  refine sx_seq fun K35 k35 => sx_region ?_
  have f36 := gw28.ext cb31
  have f37 := f36.chg cw33 (by omega)
  refine sp rfl (px_load rfl (f37.loadA (vs := [.string ((ts.getD k rt0).1), .string ((ts.getD k rt0).2.1), .bool ((ts.getD k rt0).2.2.1), (vvt.getD k vz), .int .i64 ((ts.getD k rt0).2.2.2.2)]) (look_lit rfl) Tryd.isAgg44 Tryd.sizeOf44)) ?_
  have f39 := (f6.ext c7).ext cb14
  have f40 := f39.chg cwl20 (by omega)
  have f41 := f40.ext cb26
  have f42 := f41.chg cw28 (by omega)
  have f43 := f42.ext cb31
  have f44 := f43.chg cw33 (by omega)
  have f45 := f29.chg cw28 (by omega)
  have f46 := f45.ext cb31
  have f47 := f46.chg cw33 (by omega)
  refine sx_call rfl rfl Tryd.call37 (c_iRateOk f44 f47 (hz k (by omega))) (fun v48 w48 p48 => ?_)
  obtain ⟨rfl, c48⟩ := p48
  have zw48 := c48.size
  refine sp rfl (px_notP rfl) ?_
  refine mv rfl rfl ?_
  refine sx_tmpP (t := 33) rfl (fun h47 => ?_) (fun h47 => ?_)
  ·
   refine sx_guardF rfl rfl rfl rfl rfl rfl ?_
   refine sx_guardF rfl rfl rfl rfl rfl rfl ?_
   refine sx_guardF rfl rfl rfl rfl rfl rfl ?_
   refine sp rfl (px_pick rfl rfl) ?_
   refine wl_nil (q_n (k35 _ _ ?_))
   refine sx_sub (Sub.c 3 rfl (.c 6 rfl (.c 19 rfl (.c 20 rfl (.c 21 rfl (.c 37 rfl .nil)))))) ?_
   refine sx_condT rfl ?_
   refine sx_seq fun K49 k49 => sx_region ?_
   refine av rfl rfl (wl_nil (q_n (k49 _ _ ?_)))
   refine sx_retc ?_
   refine q_r (q_br (q_r (q_r (q_br (q_r (sx_ret1 Tryd.results36 rfl ?_))))))
   have q50 := Chg.step (l := 0) (h := 0) (Chg.zero (l := 0) (h := 0) ((cb2.t c7).t cb14)) cwl20 (by omega)
   have q51 := Chg.step (l := 0) (h := 0) q50 cb26 (by omega)
   have q52 := Chg.step (l := 0) (h := 0) q51 cw28 (by omega)
   have q53 := Chg.step (l := 0) (h := 0) q52 cb31 (by omega)
   have q54 := Chg.step (l := 0) (h := 0) q53 cw33 (by omega)
   have q55 := Chg.step (l := 0) (h := 0) q54 c48 (by omega)
   exact ⟨(by first | exact bFalse (rsok_no_rate (k := k) (by omega) h47) | exact bFalse (rsok_no_key (k := k) (by omega) (fun hh => by obtain ⟨i, hi, hs⟩ := (mem_keysTo (by omega)).1 h47x1; exact hh i hi hs))), q55⟩
  refine sx_guardT rfl rfl rfl ?_
  refine mv rfl rfl ?_
  refine sx_guardT rfl rfl rfl ?_
  have f56 := gw33.ext c48
  refine sp rfl (px_load rfl (f56.loadA (vs := [.string ((ts.getD k rt0).1), .string ((ts.getD k rt0).2.1)]) (look_lit rfl) Tryd.isAgg90 Tryd.sizeOf90)) ?_
  refine sx_guardT rfl rfl rfl ?_
  have f57 := hs_Mb14.ext cb26
  have f58 := f57.chg cw28 (by omega)
  have f59 := f58.ext cb31
  have f60 := f59.chg cw33 (by omega)
  have f61 := f60.ext c48
  refine sp rfl (px_lookupM rfl rfl Tryd.underlying109 xpair90 Tryd.zeroValue4 f61) ?_
  refine sp rfl (px_pick rfl rfl) ?_
  refine wl_nil (q_n (k35 _ _ ?_))
  refine sx_sub (Sub.c 3 rfl (.c 6 rfl (.c 19 rfl (.c 20 rfl (.c 21 rfl (.c 37 rfl .nil)))))) ?_
  refine sx_condP rfl (fun h47x1 => ?_) (fun h47x1 => ?_)
  ·
   refine sx_seq fun K62 k62 => sx_region ?_
   refine av rfl rfl (wl_nil (q_n (k62 _ _ ?_)))
   refine sx_retc ?_
   refine q_r (q_br (q_r (q_r (q_br (q_r (sx_ret1 Tryd.results36 rfl ?_))))))
   have q63 := Chg.step (l := 0) (h := 0) (Chg.zero (l := 0) (h := 0) ((cb2.t c7).t cb14)) cwl20 (by omega)
   have q64 := Chg.step (l := 0) (h := 0) q63 cb26 (by omega)
   have q65 := Chg.step (l := 0) (h := 0) q64 cw28 (by omega)
   have q66 := Chg.step (l := 0) (h := 0) q65 cb31 (by omega)
   have q67 := Chg.step (l := 0) (h := 0) q66 cw33 (by omega)
   have q68 := Chg.step (l := 0) (h := 0) q67 c48 (by omega)
   exact ⟨(by first | exact bFalse (rsok_no_rate (k := k) (by omega) h47) | exact bFalse (rsok_no_key (k := k) (by omega) (fun hh => by obtain ⟨i, hi, hs⟩ := (mem_keysTo (by omega)).1 h47x1; exact hh i hi hs))), q68⟩
  refine sx_skip ?_
  refine q_n (k34 _ _ ?_)
  refine sx_region ?_
  refine mv rfl rfl (sp rfl (px_load rfl (f56.loadA (vs := [.string ((ts.getD k rt0).1), .string ((ts.getD k rt0).2.1)]) (look_lit rfl) Tryd.isAgg90 Tryd.sizeOf90)) ?_)
  refine sx_mapUpdateM rfl rfl rfl Tryd.underlying109 xpair90 f61 (by assumption) (fun w69 sw69 fw69 cw69 => ?_)
  have zw69 := cw69.size
  refine wl_nil ?_
  refine q_bn (q_n (k23 _ _ ?_))
  refine sx_region ?_
  refine sp rfl (px_add rfl rfl (by omega)) ?_
  refine mv rfl rfl (wl_nil ?_)
  have q70 := Chg.step (l := b14) (h := (b14 + 1)) cwl20 cb26 (by omega)
  have q71 := Chg.step (l := b14) (h := (b14 + 1)) q70 cw28 (by omega)
  have q72 := Chg.step (l := b14) (h := (b14 + 1)) q71 cb31 (by omega)
  have q73 := Chg.step (l := b14) (h := (b14 + 1)) q72 cw33 (by omega)
  have q74 := Chg.step (l := b14) (h := (b14 + 1)) q73 c48 (by omega)
  have q75 := Chg.step (l := b14) (h := (b14 + 1)) q74 cw69 (by omega)
  exact fun a ha => ⟨_, by omega, (k + 1), ha.sub (Sub.c 3 rfl (.c 19 rfl (.c 20 rfl (.c 21 (look_int (t := 21) rfl (by first | omega | simp)) .nil)))), q75, (by rw [keysTo_succ (by omega)]; exact fw69), rfl, by omega, AllTo_succ hall (Decidable.not_not.1 h47) (fun i hi hs => h47x1 ((mem_keysTo (by omega)).2 ⟨i, hi, hs⟩))⟩
 refine sx_exit ?_
 refine q_e (q_e (q_bx (q_n (k16 _ _ ?_))))
 refine sx_seq fun K76 k76 => sx_region ?_
 refine av rfl rfl (wl_nil (q_n (k76 _ _ ?_)))
 refine sx_retc ?_
 refine sx_ret1 Tryd.results36 rfl ?_
 have ek : k = ts.length := by omega
 subst ek
 have q77 := Chg.step (l := 0) (h := 0) (Chg.zero (l := 0) (h := 0) ((cb2.t c7).t cb14)) cwl20 (by omega)
 exact ⟨bTrue ⟨Decidable.not_not.1 h41, by omega, hall⟩, q77⟩

theorem c_natCopy {w : World} {va : Value} {lva uva : Nat} {zs : List Int} (hva : Sl w lva uva va (zs)) (h63 : zs.length ≤ 1048576) :
  Ret Tryd.prog 109 [va] w fun v w' => ∃ s, v = s ∧ OwnI w' w.heap.size w'.heap.size s intT (zs) ∧ Chg 0 0 w w' := by
 have hva0 := hva.fit
 refine sx_enter Tryd.func109 rfl Tryd.ntmps109 (nbl rfl) ?_
 refine sx_seq fun K1 k1 => sx_region ?_
 refine av rfl rfl (wl_nil (q_n (k1 _ _ ?_)))
 refine sx_seq fun K2 k2 => sx_region ?_
 refine sx_lit0 rfl xelt25 (fun s3 ws3 ss3 fs3 cs3 => ?_)
 have zws3 := cs3.size
 refine mv rfl rfl ?_
 have f5 := hva0.ext cs3
 refine sx_append rfl xelt25 rfl rfl fs3 f5 one_int (by omega) (by omega) (by unfold maxLen; omega) (fun a4 w4 fw4 cw4 => ?_)
 have nw4 := Own.norm (f := (Value.int .i64)) (zs := zs) fw4
 have zw4 := cw4.size
 refine av rfl rfl (wl_nil (q_n (k2 _ _ ?_)))
 refine sx_retc ?_
 refine sx_ret1 Tryd.results109 rfl ?_
 have q6 := Chg.step (l := 0) (h := 0) (Chg.zero (l := 0) (h := 0) cs3) cw4 (by omega)
 exact ⟨_, rfl, Own.mono nw4 (by omega) (by omega), q6⟩

theorem c_intCopy {w : World} {n1 : Bool} {v1 : Value} {lv1 uv1 : Nat} {z1 : List Int} (hv1 : Sl w lv1 uv1 v1 (z1)) (bz1 : z1.length ≤ 1048576) :
  Ret Tryd.prog 100 [.agg #[.bool n1, v1]] w fun v w' => ∃ s, v = .agg #[.bool (n1), s] ∧ OwnI w' w.heap.size w'.heap.size s intT (z1) ∧ Chg 0 0 w w' := by
 have hv10 := hv1.fit
 refine sx_enter Tryd.func100 rfl Tryd.ntmps100 (nbl rfl) ?_
 refine sx_seq fun K1 k1 => sx_region ?_
 refine sx_box [.bool n1, v1] rfl rfl rfl (fun b2 w3 eb2 sb2 fb2 cb2 => ?_)
 have zw3 := cb2.size
 refine sx_alloc [.bool false, (.slice none 0 0)] rfl Tryd.zeroValue40 rfl (fun b4 w5 eb4 sb4 fb4 cb4 => ?_)
 have zw5 := cb4.size
 refine wl_nil (q_n (k1 _ _ ?_))
 refine sx_seq fun K6 k6 => ?_
 have f7 := fb2.ext cb4
 have f8 := hv10.ext cb2
 have f9 := f8.ext cb4
 refine dx_region (fun w' => Chg b4 (b4 + 1) w5 w') (by kernel_rfl) (Chg.zero (Chg.drew _)) ?_
 have d10 := Chg.drew w5
 have s10 : Chg b4 (b4 + 1) w5 (World.drew w5) := Chg.zero (Chg.drew _)
 have y10 : (World.drew w5).heap.size = w5.heap.size := rfl
 generalize World.drew w5 = w10 at *
 have zw10 := d10.size
 refine dt 0 rfl rfl rfl rfl s10 (fun _ hS => px_field rfl xfld40x0) ?_
 refine dt 1 rfl rfl rfl rfl s10 (fun _ hS => px_load rfl ((f7.chg hS (by omega)).load1 rfl Tryd.isAgg4)) ?_
 refine dt 2 rfl rfl rfl rfl s10 (fun _ hS => px_field rfl xfld40x1) ?_
 refine dt 3 rfl rfl rfl rfl s10 (fun _ hS => px_load rfl ((f7.chg hS (by omega)).load1 rfl Tryd.isAgg25)) ?_
 refine dx_eff 4 rfl (by kernel_rfl) ?_
 have f11 := f9.ext d10
 refine sx_call rfl rfl Tryd.call109 (c_natCopy f11 (by omega)) (fun v12 w12 p12 => ?_)
 obtain ⟨s12, rfl, os_12, c12⟩ := p12
 have zw12 := c12.size
 have s13 : Chg b4 (b4 + 1) w5 w12 := (Chg.zero (l := b4) (h := (b4 + 1)) (d10.t c12))
 refine wl_nil ?_
 refine dx_next s13 ?_
 refine dt 5 rfl rfl rfl rfl s13 (fun _ hS => px_build rfl (xbld40x0x1 rfl os_12.one _)) ?_
 refine dx_eff 6 rfl (by kernel_rfl) ?_
 have f16 := (fb4.ext d10).ext c12
 refine sx_store (vs := [.bool n1, v12]) rfl rfl f16 rfl Tryd.sizeOf40 (nbl rfl) (one_cons rfl (one_cons os_12.one one_nil)) (fun w14 sw14 fw14 cw14 => ?_)
 have zw14 := cw14.size
 have gw14 : Blk w14 b4 [.bool n1, v12] 40 := fw14
 have q18 := Chg.step (l := b4) (h := (b4 + 1)) (Chg.zero (l := b4) (h := (b4 + 1)) (d10.t c12)) cw14 (by omega)
 have s17 : Chg b4 (b4 + 1) w5 w14 := q18
 refine wl_nil ?_
 refine dx_next s17 ?_
 refine dx_done (by kernel_rfl) ?_
 refine q_n (k6 _ _ ?_)
 refine sx_retc ?_
 refine sx_ret1 Tryd.results100 ⟨_, rfl, gw14.loadA (vs := [.bool n1, v12]) (look_lit rfl) Tryd.isAgg40 Tryd.sizeOf40⟩ ?_
 have q19 := Chg.step (l := 0) (h := 0) (Chg.zero (l := 0) (h := 0) (((cb2.t cb4).t d10).t c12)) cw14 (by omega)
 have f20 := os_12.chg cw14 (by omega)
 exact ⟨_, rfl, (Own.mono f20 (by omega) (by omega)), q19⟩

theorem c_decCopy {w : World} {n1 : Bool} {v1 : Value} {lv1 uv1 : Nat} {z1 : List Int} {p1 : Int} (hv1 : Sl w lv1 uv1 v1 (z1)) (bz1 : z1.length ≤ 1048576) :
  Ret Tryd.prog 70 [.agg #[.bool n1, v1, .int .i64 p1]] w fun v w' => ∃ s, v = .agg #[.bool (n1), s, .int .i64 (p1)] ∧ OwnI w' w.heap.size w'.heap.size s intT (z1) ∧ Chg 0 0 w w' := by
 have hv10 := hv1.fit
 refine sx_enter Tryd.func70 rfl Tryd.ntmps70 (nbl rfl) ?_
 refine sx_seq fun K1 k1 => sx_region ?_
 refine sx_box [.bool n1, v1, .int .i64 p1] rfl rfl rfl (fun b2 w3 eb2 sb2 fb2 cb2 => ?_)
 have zw3 := cb2.size
 refine sx_alloc [.bool false, (.slice none 0 0), .int .i64 0] rfl Tryd.zeroValue42 rfl (fun b4 w5 eb4 sb4 fb4 cb4 => ?_)
 have zw5 := cb4.size
 refine wl_nil (q_n (k1 _ _ ?_))
 refine sx_seq fun K6 k6 => ?_
 have f7 := fb2.ext cb4
 have f8 := hv10.ext cb2
 have f9 := f8.ext cb4
 refine dx_region (fun w' => Chg b4 (b4 + 1) w5 w') (by kernel_rfl) (Chg.zero (Chg.drew _)) ?_
 have d10 := Chg.drew w5
 have s10 : Chg b4 (b4 + 1) w5 (World.drew w5) := Chg.zero (Chg.drew _)
 have y10 : (World.drew w5).heap.size = w5.heap.size := rfl
 generalize World.drew w5 = w10 at *
 have zw10 := d10.size
 refine dt 0 rfl rfl rfl rfl s10 (fun _ hS => px_field rfl xfld42x0) ?_
 refine dt 1 rfl rfl rfl rfl s10 (fun _ hS => px_load rfl ((f7.chg hS (by omega)).loadA (vs := [.bool n1, v1]) (look_lit rfl) Tryd.isAgg40 Tryd.sizeOf40)) ?_
 refine dt 3 rfl rfl rfl rfl s10 (fun _ hS => px_field rfl xfld42x1) ?_
 refine dt 4 rfl rfl rfl rfl s10 (fun _ hS => px_load rfl ((f7.chg hS (by omega)).load1 rfl Tryd.isAgg3)) ?_
 refine dx_eff 2 rfl (by kernel_rfl) ?_
 have f11 := f9.ext d10
 refine sx_call rfl rfl Tryd.call100 (c_intCopy f11 (by omega)) (fun v12 w12 p12 => ?_)
 obtain ⟨s12, rfl, os_12, c12⟩ := p12
 have zw12 := c12.size
 have s13 : Chg b4 (b4 + 1) w5 w12 := (Chg.zero (l := b4) (h := (b4 + 1)) (d10.t c12))
 refine wl_nil ?_
 refine dx_next s13 ?_
 refine dt 5 rfl rfl rfl rfl s13 (fun _ hS => px_build rfl (xbld42x0x1 rfl _)) ?_
 refine dx_eff 6 rfl (by kernel_rfl) ?_
 have f16 := (fb4.ext d10).ext c12
 refine sx_store (vs := [.bool n1, s12, .int .i64 p1]) rfl rfl f16 rfl Tryd.sizeOf42 (nbl rfl) (one_cons rfl (one_cons os_12.one (o1 rfl))) (fun w14 sw14 fw14 cw14 => ?_)
 have zw14 := cw14.size
 have gw14 : Blk w14 b4 [.bool n1, s12, .int .i64 p1] 42 := fw14
 have q18 := Chg.step (l := b4) (h := (b4 + 1)) (Chg.zero (l := b4) (h := (b4 + 1)) (d10.t c12)) cw14 (by omega)
 have s17 : Chg b4 (b4 + 1) w5 w14 := q18
 refine wl_nil ?_
 refine dx_next s17 ?_
 refine dx_done (by kernel_rfl) ?_
 refine q_n (k6 _ _ ?_)
 refine sx_retc ?_
 refine sx_ret1 Tryd.results70 ⟨_, rfl, gw14.loadA (vs := [.bool n1, s12, .int .i64 p1]) (look_lit rfl) Tryd.isAgg42 Tryd.sizeOf42⟩ ?_
 have q19 := Chg.step (l := 0) (h := 0) (Chg.zero (l := 0) (h := 0) (((cb2.t cb4).t d10).t c12)) cw14 (by omega)
 have f20 := os_12.chg cw14 (by omega)
 exact ⟨_, rfl, (Own.mono f20 (by omega) (by omega)), q19⟩

theorem c_rateCopy {w : World} {f1 : ByteArray} {t1 : ByteArray} {n1 : Bool} {v1 : Value} {lv1 uv1 : Nat} {z1 : List Int} {p1 : Int} (hv1 : Sl w lv1 uv1 v1 (z1)) (bz1 : z1.length ≤ 1048576) :
  Ret Tryd.prog 39 [.agg #[.string f1, .string t1, .bool n1, v1, .int .i64 p1]] w fun v w' => ∃ s, v = .agg #[.string (f1), .string (t1), .bool (n1), s, .int .i64 (p1)] ∧ OwnI w' w.heap.size w'.heap.size s intT (z1) ∧ Chg 0 0 w w' := by
 have hv10 := hv1.fit
 refine sx_enter Tryd.func39 rfl Tryd.ntmps39 (nbl rfl) ?_
 refine sx_seq fun K1 k1 => sx_region ?_
 refine sx_box [.string f1, .string t1, .bool n1, v1, .int .i64 p1] rfl rfl rfl (fun b2 w3 eb2 sb2 fb2 cb2 => ?_)
 have zw3 := cb2.size
 refine sx_alloc [.string (⟨#[]⟩), .string (⟨#[]⟩), .bool false, (.slice none 0 0), .int .i64 0] rfl Tryd.zeroValue44 rfl (fun b4 w5 eb4 sb4 fb4 cb4 => ?_)
 have zw5 := cb4.size
 refine wl_nil (q_n (k1 _ _ ?_))
 refine sx_seq fun K6 k6 => ?_
 have f7 := fb2.ext cb4
 have f8 := hv10.ext cb2
 have f9 := f8.ext cb4
 refine dx_region (fun w' => Chg b4 (b4 + 1) w5 w') (by kernel_rfl) (Chg.zero (Chg.drew _)) ?_
 have d10 := Chg.drew w5
 have s10 : Chg b4 (b4 + 1) w5 (World.drew w5) := Chg.zero (Chg.drew _)
 have y10 : (World.drew w5).heap.size = w5.heap.size := rfl
 generalize World.drew w5 = w10 at *
 have zw10 := d10.size
 refine dt 0 rfl rfl rfl rfl s10 (fun _ hS => px_field rfl xfld44x0) ?_
 refine dt 1 rfl rfl rfl rfl s10 (fun _ hS => px_load rfl ((f7.chg hS (by omega)).load1 rfl Tryd.isAgg9)) ?_
 refine dt 2 rfl rfl rfl rfl s10 (fun _ hS => px_field rfl xfld44x1) ?_
 refine dt 3 rfl rfl rfl rfl s10 (fun _ hS => px_load rfl ((f7.chg hS (by omega)).load1 rfl Tryd.isAgg9)) ?_
 refine dt 4 rfl rfl rfl rfl s10 (fun _ hS => px_field rfl xfld44x2) ?_
 refine dt 5 rfl rfl rfl rfl s10 (fun _ hS => px_load rfl ((f7.chg hS (by omega)).loadA (vs := [.bool n1, v1, .int .i64 p1]) (look_lit rfl) Tryd.isAgg42 Tryd.sizeOf42)) ?_
 refine dx_eff 6 rfl (by kernel_rfl) ?_
 have f11 := f9.ext d10
 refine sx_call rfl rfl Tryd.call70 (c_decCopy f11 (by omega)) (fun v12 w12 p12 => ?_)
 obtain ⟨s12, rfl, os_12, c12⟩ := p12
 have zw12 := c12.size
 have s13 : Chg b4 (b4 + 1) w5 w12 := (Chg.zero (l := b4) (h := (b4 + 1)) (d10.t c12))
 refine wl_nil ?_
 refine dx_next s13 ?_
 refine dt 7 rfl rfl rfl rfl s13 (fun _ hS => px_build rfl (xbld44x0x1x2 rfl rfl _)) ?_
 refine dx_eff 8 rfl (by kernel_rfl) ?_
 have f16 := (fb4.ext d10).ext c12
 refine sx_store (vs := [.string f1, .string t1, .bool n1, s12, .int .i64 p1]) rfl rfl f16 rfl Tryd.sizeOf44 (nbl rfl) (one_cons rfl (one_cons rfl (one_cons rfl (one_cons os_12.one (o1 rfl))))) (fun w14 sw14 fw14 cw14 => ?_)
 have zw14 := cw14.size
 have gw14 : Blk w14 b4 [.string f1, .string t1, .bool n1, s12, .int .i64 p1] 44 := fw14
 have q18 := Chg.step (l := b4) (h := (b4 + 1)) (Chg.zero (l := b4) (h := (b4 + 1)) (d10.t c12)) cw14 (by omega)
 have s17 : Chg b4 (b4 + 1) w5 w14 := q18
 refine wl_nil ?_
 refine dx_next s17 ?_
 refine dx_done (by kernel_rfl) ?_
 refine q_n (k6 _ _ ?_)
 refine sx_retc ?_
 refine sx_ret1 Tryd.results39 ⟨_, rfl, gw14.loadA (vs := [.string f1, .string t1, .bool n1, s12, .int .i64 p1]) (look_lit rfl) Tryd.isAgg44 Tryd.sizeOf44⟩ ?_
 have q19 := Chg.step (l := 0) (h := 0) (Chg.zero (l := 0) (h := 0) (((cb2.t cb4).t d10).t c12)) cw14 (by omega)
 have f20 := os_12.chg cw14 (by omega)
 exact ⟨_, rfl, (Own.mono f20 (by omega) (by omega)), q19⟩

theorem c_ratesCopy {w : World} {pv : ByteArray} {vt : Value} {lvt uvt : Nat} {ts : List Rt} {vvt : List Value} (hvt : RtS w lvt uvt vt ts vvt) (h63 : ts.length ≤ 1000000) (hI : ∀ i, i < ts.length → (ts.getD i rt0).2.2.2.1.length ≤ 1048576) :
  Ret Tryd.prog 38 [.agg #[.string pv, vt]] w fun v w' => ∃ s us, v = .agg #[.string (pv), s] ∧ RtG w' (w.heap.size) (w'.heap.size) s 44 intT (ts) us ∧ Chg 0 0 w w' := by
 have hvt0 := hvt.fit
 refine sx_enter Tryd.func38 rfl Tryd.ntmps38 (nbl rfl) ?_
 refine sx_seq fun K1 k1 => sx_region ?_
 refine sx_box [.string pv, vt] rfl rfl rfl (fun b2 w3 eb2 sb2 fb2 cb2 => ?_)
 have zw3 := cb2.size
 refine sx_alloc [.string (⟨#[]⟩), (.slice none 0 0)] rfl Tryd.zeroValue36 rfl (fun b4 w5 eb4 sb4 fb4 cb4 => ?_)
 have zw5 := cb4.size
 refine wl_nil (q_n (k1 _ _ ?_))
 refine sx_seq fun K6 k6 => sx_region ?_
 refine sp rfl (px_field rfl xfld36x0) ?_
 have f7 := fb2.ext cb4
 refine sp rfl (px_load rfl (f7.load1 rfl Tryd.isAgg9)) ?_
 refine sp rfl (px_build rfl (xbld36x0 rfl _)) ?_
 refine sx_alloc [.string (⟨#[]⟩), (.slice none 0 0)] rfl Tryd.zeroValue36 rfl (fun b8 w9 eb8 sb8 fb8 cb8 => ?_)
 have zw9 := cb8.size
 refine sx_store (vs := [.string pv, (.slice none 0 0)]) rfl rfl fb8 rfl Tryd.sizeOf36 (nbl rfl) (o2 rfl rfl) (fun w10 sw10 fw10 cw10 => ?_)
 have zw10 := cw10.size
 have gw10 : Blk w10 b8 [.string pv, (.slice none 0 0)] 36 := fw10
 refine wl_nil (q_n (k6 _ _ ?_))
 refine sx_seq fun K11 k11 => ?_
 refine sx_seq fun K12 k12 => sx_region ?_
 refine sp rfl (px_field rfl xfld36x1) ?_
 have f13 := f7.ext cb8
 have f14 := f13.chg cw10 (by omega)
 refine sp rfl (px_load rfl (f14.load1 rfl Tryd.isAgg34)) ?_
 have f15 := hvt0.ext cb2
 have f16 := f15.ext cb4
 have f17 := f16.ext cb8
 have f18 := f17.chg cw10 (by omega)
 refine sp rfl (px_len rfl Tryd.underlying34 f18.sv) ?_
 refine mv rfl rfl (wl_nil (q_n (k12 _ _ ?_)))
 refine sx_block ?_
 have f20 := fb4.ext cb8
 have f21 := f20.chg cw10 (by omega)
 have q22 := Chg.step (l := 0) (h := 0) (Chg.zero (l := 0) (h := 0) ((cb2.t cb4).t cb8)) cw10 (by omega)
 refine sx_loop (fun mm aa w' => ∃ (k : Nat) (s : Value) (us : List Value), Agr 25 [(2, .pointer (some ⟨b4, 0, none⟩)), (3, .pointer (some ⟨b8, 0, none⟩)), (10, vt), (11, .int .i64 (↑(ts).length)), (12, .int .i64 ↑k)] aa ∧ Chg 0 0 w w' ∧ Blk w' b4 [.string (⟨#[]⟩), (.slice none 0 0)] 36 ∧ Blk w' b8 [.string pv, s] 36 ∧ RtG w' w10.heap.size w'.heap.size s 44 intT (ts.take k) us ∧ (mm = ts.length - k) ∧ (k ≤ ts.length)) (_) (fun a ha => ⟨0, (.slice none 0 0), [], ha.sub (Sub.c 2 rfl (.c 3 rfl (.c 10 rfl (.c 11 (look_int (t := 11) rfl (by first | omega | simp)) (.c 12 (look_int (t := 12) rfl (by first | omega | simp)) .nil))))), q22, f21, gw10, ((RtG.nil w10 w10.heap.size w10.heap.size 44 intT (by omega))), rfl, by omega⟩) ?_
 rintro mm aa wl19 ⟨k, s, us, hAwl19, cwl19, hb_b4, hb_b8, hs_s, hm, hk⟩
 refine (show cw Tryd.prog 25 _ _ _ wl19 from ?_) aa hAwl19
 clear hAwl19
 have zwl19 := cwl19.size
 have lt23 := hb_b4.lt
 have lt24 := hb_b8.lt
 have hIk := fun (h : k < ts.length) => hI k h
 have hlk : (ts.take k).length = k := by rw [List.length_take]; omega
 refine sx_seq fun K25 k25 => sx_region ?_
 refine sp rfl (px_lt rfl rfl) ?_
 refine wl_nil (q_n (k25 _ _ ?_))
 refine sx_seq fun K26 k26 => ?_
 refine sx_condP rfl (fun h61 => ?_) (fun h61 => ?_)
 ·
  refine sx_skip ?_
  refine q_n (k26 _ _ ?_)
  refine sx_seq fun K27 k27 => ?_
  refine sx_block ?_
  refine sx_seq fun K28 k28 => sx_region ?_
  have f29 := hvt0.ext cwl19
  refine sp rfl (px_indexK (j := k) rfl rfl (by omega) Tryd.underlying34 Tryd.sizeOf44 f29.sv (by omega)) ?_
  refine sp rfl (px_load rfl (f29.sv.loadA (rt_look f29.len (by omega)) Tryd.isAgg44 Tryd.sizeOf44)) ?_
  refine sx_alloc [.string (⟨#[]⟩), .string (⟨#[]⟩), .bool false, (.slice none 0 0), .int .i64 0] rfl Tryd.zeroValue44 rfl (fun b30 w31 eb30 sb30 fb30 cb30 => ?_)
  have zw31 := cb30.size
  have f33 := (f29.nest k (by omega)).ext cb30
  refine sx_store (vs := [.string ((ts.getD k rt0).1), .string ((ts.getD k rt0).2.1), .bool ((ts.getD k rt0).2.2.1), (vvt.getD k vz), .int .i64 ((ts.getD k rt0).2.2.2.2)]) rfl rfl fb30 rfl Tryd.sizeOf44 (nbl rfl) (one_cons rfl (one_cons rfl (one_cons rfl (one_cons f33.one (o1 rfl))))) (fun w32 sw32 fw32 cw32 => ?_)
  have zw32 := cw32.size
  have gw32 : Blk w32 b30 [.string ((ts.getD k rt0).1), .string ((ts.getD k rt0).2.1), .bool ((ts.getD k rt0).2.2.1), (vvt.getD k vz), .int .i64 ((ts.getD k rt0).2.2.2.2)] 44 := fw32
  refine wl_nil (q_n (k28 _ _ ?_))
  have f34 := hs_s.ext cb30
  have f35 := f34.chg cw32 (by omega)
  have f36 := hb_b4.ext cb30
  have f37 := f36.chg cw32 (by omega)
  have f38 := f29.ext cb30
  have f39 := f38.chg cw32 (by omega)
  have f40 := f33.chg cw32 (by omega)
  refine dx_region (fun w' => Chg b8 (wl19.heap.size) w32 w') (by kernel_rfl) (Chg.zero (Chg.drew _)) ?_
  have d41 := Chg.drew w32
  have s41 : Chg b8 (wl19.heap.size) w32 (World.drew w32) := Chg.zero (Chg.drew _)
  have y41 : (World.drew w32).heap.size = w32.heap.size := rfl
  generalize World.drew w32 = w41 at *
  have zw41 := d41.size
  refine dt 0 rfl rfl rfl rfl s41 (fun _ hS => px_field rfl xfld36x1) ?_
  refine dt 2 rfl rfl rfl rfl s41 (fun _ hS => px_load rfl ((gw32.chg hS (by omega)).loadA (vs := [.string ((ts.getD k rt0).1), .string ((ts.getD k rt0).2.1), .bool ((ts.getD k rt0).2.2.1), (vvt.getD k vz), .int .i64 ((ts.getD k rt0).2.2.2.2)]) (look_lit rfl) Tryd.isAgg44 Tryd.sizeOf44)) ?_
  refine dx_eff2 1 3 rfl rfl (by kernel_rfl) ?_ ?_
  ·
   have f42 := hb_b8.ext cb30
   have f43 := f42.chg cw32 (by omega)
   have f44 := f43.ext d41
   refine sp rfl (px_load rfl (f44.load1 rfl Tryd.isAgg34)) ?_
   have s45 : Chg b8 (wl19.heap.size) w32 w41 := (Chg.zero (l := b8) (h := (wl19.heap.size)) (d41))
   refine wl_nil ?_
   refine dx_next s45 ?_
   refine dx_eff 3 rfl (by kernel_rfl) ?_
   have f46 := f40.ext d41
   refine sx_call rfl rfl Tryd.call39 (c_rateCopy f46 (hIk (by omega))) (fun v47 w47 p47 => ?_)
   obtain ⟨s47, rfl, os_47, c47⟩ := p47
   have zw47 := c47.size
   have s48 : Chg b8 (wl19.heap.size) w32 w47 := (Chg.zero (l := b8) (h := (wl19.heap.size)) (d41.t c47))
   refine wl_nil ?_
   refine dx_next s48 ?_
   refine dx_eff 4 rfl (by kernel_rfl) ?_
   refine sx_lit1A5 rfl xelt34 rfl (fun s49 ws49 ss49 fs49 cs49 => ?_)
   have zws49 := cs49.size
   have s50 : Chg b8 (wl19.heap.size) w32 ws49 := (Chg.zero (l := b8) (h := (wl19.heap.size)) ((d41.t c47).t cs49))
   refine wl_nil ?_
   refine dx_next s50 ?_
   refine dx_eff 5 rfl (by kernel_rfl) ?_
   have f54 := ((f35.ext d41).ext c47).ext cs49
   have f55 := os_47.ext cs49
   refine sx_appendRt (xb := b8) (r := (((ts.getD k rt0).1), ((ts.getD k rt0).2.1), ((ts.getD k rt0).2.2.1), ((ts.getD k rt0).2.2.2.1), ((ts.getD k rt0).2.2.2.2))) rfl xelt34 rfl rfl f54 fs49.sv f55 (by omega) (by omega) (by omega) (by unfold maxLen; omega) (fun a51 w51 fw51 cw51 => ?_)
   have zw51 := cw51.size
   have q57 := Chg.step (l := b8) (h := (wl19.heap.size)) (Chg.zero (l := b8) (h := (wl19.heap.size)) ((d41.t c47).t cs49)) cw51 (by omega)
   have s56 : Chg b8 (wl19.heap.size) w32 w51 := q57
   refine wl_nil ?_
   refine dx_next s56 ?_
   refine dt 6 rfl rfl rfl rfl s56 (fun _ hS => px_field rfl xfld36x1) ?_
   refine dx_eff 7 rfl (by kernel_rfl) ?_
   have f60 := (f44.ext c47).ext cs49
   have f61 := f60.chg cw51 (by omega)
   refine sx_store (vs := [a51]) rfl rfl f61 (cells_one (fw51).toS.one) Tryd.sizeOf34 (nbl rfl) (one_cons (fw51).toS.one one_nil) (fun w58 sw58 fw58 cw58 => ?_)
   have zw58 := cw58.size
   have gw58 : Blk w58 b8 [.string pv, a51] 36 := fw58
   have q63 := Chg.step (l := b8) (h := (wl19.heap.size)) (Chg.zero (l := b8) (h := (wl19.heap.size)) ((d41.t c47).t cs49)) cw51 (by omega)
   have q64 := Chg.step (l := b8) (h := (wl19.heap.size)) q63 cw58 (by omega)
   have s62 : Chg b8 (wl19.heap.size) w32 w58 := q64
   refine wl_nil ?_
   refine dx_next s62 ?_
   refine dx_done (by kernel_rfl) ?_
   refine q_bn (q_n (k27 _ _ ?_))
   refine sx_sub (Sub.c 2 rfl (.c 3 rfl (.c 10 rfl (.c 11 rfl (.c 12 rfl .nil))))) ?_
   refine sx_region ?_
   refine sp rfl (px_add rfl rfl (by omega)) ?_
   refine mv rfl rfl (wl_nil ?_)
   have q65 := Chg.step (l := 0) (h := 0) (Chg.zero (l := 0) (h := 0) (cwl19.t cb30)) cw32 (by omega)
   have q66 := Chg.step (l := 0) (h := 0) q65 ((d41.t c47).t cs49) (by omega)
   have q67 := Chg.step (l := 0) (h := 0) q66 cw51 (by omega)
   have q68 := Chg.step (l := 0) (h := 0) q67 cw58 (by omega)
   have f71 := ((f37.ext d41).ext c47).ext cs49
   have f72 := f71.chg cw51 (by omega)
   have f73 := f72.chg cw58 (by omega)
   have f74 := fw51.chgX cw58
   exact fun a ha => ⟨_, by omega, (k + 1), a51, (us ++ [s47]), ha.sub (Sub.c 2 rfl (.c 3 rfl (.c 10 rfl (.c 11 rfl (.c 12 (look_int (t := 12) rfl (by first | omega | simp)) .nil))))), q68, f73, gw58, (by rw [take_snoc (by omega)]; exact (f74).mono (by omega) (by omega)), rfl, by omega⟩
  have f75 := f40.ext d41
  refine sx_call rfl rfl Tryd.call39 (c_rateCopy f75 (hIk (by omega))) (fun v76 w76 p76 => ?_)
  obtain ⟨s76, rfl, os_76, c76⟩ := p76
  have zw76 := c76.size
  have s77 : Chg b8 (wl19.heap.size) w32 w76 := (Chg.zero (l := b8) (h := (wl19.heap.size)) (d41.t c76))
  refine wl_nil ?_
  refine dx_next s77 ?_
  refine dx_eff2 1 4 rfl rfl (by kernel_rfl) ?_ ?_
  ·
   have f78 := hb_b8.ext cb30
   have f79 := f78.chg cw32 (by omega)
   have f81 := (f79.ext d41).ext c76
   refine sp rfl (px_load rfl (f81.load1 rfl Tryd.isAgg34)) ?_
   have s82 : Chg b8 (wl19.heap.size) w32 w76 := (Chg.zero (l := b8) (h := (wl19.heap.size)) (d41.t c76))
   refine wl_nil ?_
   refine dx_next s82 ?_
   refine dx_eff 4 rfl (by kernel_rfl) ?_
   refine sx_lit1A5 rfl xelt34 rfl (fun s83 ws83 ss83 fs83 cs83 => ?_)
   have zws83 := cs83.size
   have s84 : Chg b8 (wl19.heap.size) w32 ws83 := (Chg.zero (l := b8) (h := (wl19.heap.size)) ((d41.t c76).t cs83))
   refine wl_nil ?_
   refine dx_next s84 ?_
   refine dx_eff 5 rfl (by kernel_rfl) ?_
   have f88 := ((f35.ext d41).ext c76).ext cs83
   have f89 := os_76.ext cs83
   refine sx_appendRt (xb := b8) (r := (((ts.getD k rt0).1), ((ts.getD k rt0).2.1), ((ts.getD k rt0).2.2.1), ((ts.getD k rt0).2.2.2.1), ((ts.getD k rt0).2.2.2.2))) rfl xelt34 rfl rfl f88 fs83.sv f89 (by omega) (by omega) (by omega) (by unfold maxLen; omega) (fun a85 w85 fw85 cw85 => ?_)
   have zw85 := cw85.size
   have q91 := Chg.step (l := b8) (h := (wl19.heap.size)) (Chg.zero (l := b8) (h := (wl19.heap.size)) ((d41.t c76).t cs83)) cw85 (by omega)
   have s90 : Chg b8 (wl19.heap.size) w32 w85 := q91
   refine wl_nil ?_
   refine dx_next s90 ?_
   refine dt 6 rfl rfl rfl rfl s90 (fun _ hS => px_field rfl xfld36x1) ?_
   refine dx_eff 7 rfl (by kernel_rfl) ?_
   have f93 := f81.ext cs83
   have f94 := f93.chg cw85 (by omega)
   refine sx_store (vs := [a85]) rfl rfl f94 (cells_one (fw85).toS.one) Tryd.sizeOf34 (nbl rfl) (one_cons (fw85).toS.one one_nil) (fun w92 sw92 fw92 cw92 => ?_)
   have zw92 := cw92.size
   have gw92 : Blk w92 b8 [.string pv, a85] 36 := fw92
   have q96 := Chg.step (l := b8) (h := (wl19.heap.size)) (Chg.zero (l := b8) (h := (wl19.heap.size)) ((d41.t c76).t cs83)) cw85 (by omega)
   have q97 := Chg.step (l := b8) (h := (wl19.heap.size)) q96 cw92 (by omega)
   have s95 : Chg b8 (wl19.heap.size) w32 w92 := q97
   refine wl_nil ?_
   refine dx_next s95 ?_
   refine dx_done (by kernel_rfl) ?_
   refine q_bn (q_n (k27 _ _ ?_))
   refine sx_sub (Sub.c 2 rfl (.c 3 rfl (.c 10 rfl (.c 11 rfl (.c 12 rfl .nil))))) ?_
   refine sx_region ?_
   refine sp rfl (px_add rfl rfl (by omega)) ?_
   refine mv rfl rfl (wl_nil ?_)
   have q98 := Chg.step (l := 0) (h := 0) (Chg.zero (l := 0) (h := 0) (cwl19.t cb30)) cw32 (by omega)
   have q99 := Chg.step (l := 0) (h := 0) q98 ((d41.t c76).t cs83) (by omega)
   have q100 := Chg.step (l := 0) (h := 0) q99 cw85 (by omega)
   have q101 := Chg.step (l := 0) (h := 0) q100 cw92 (by omega)
   have f104 := ((f37.ext d41).ext c76).ext cs83
   have f105 := f104.chg cw85 (by omega)
   have f106 := f105.chg cw92 (by omega)
   have f107 := fw85.chgX cw92
   exact fun a ha => ⟨_, by omega, (k + 1), a85, (us ++ [s76]), ha.sub (Sub.c 2 rfl (.c 3 rfl (.c 10 rfl (.c 11 rfl (.c 12 (look_int (t := 12) rfl (by first | omega | simp)) .nil))))), q101, f106, gw92, (by rw [take_snoc (by omega)]; exact (f107).mono (by omega) (by omega)), rfl, by omega⟩
  refine sx_lit1A5 rfl xelt34 rfl (fun s108 ws108 ss108 fs108 cs108 => ?_)
  have zws108 := cs108.size
  have s109 : Chg b8 (wl19.heap.size) w32 ws108 := (Chg.zero (l := b8) (h := (wl19.heap.size)) ((d41.t c76).t cs108))
  refine wl_nil ?_
  refine dx_next s109 ?_
  refine dx_eff 1 rfl (by kernel_rfl) ?_
  have f110 := hb_b8.ext cb30
  have f111 := f110.chg cw32 (by omega)
  have f114 := ((f111.ext d41).ext c76).ext cs108
  refine sp rfl (px_load rfl (f114.load1 rfl Tryd.isAgg34)) ?_
  have s115 : Chg b8 (wl19.heap.size) w32 ws108 := (Chg.zero (l := b8) (h := (wl19.heap.size)) ((d41.t c76).t cs108))
  refine wl_nil ?_
  refine dx_next s115 ?_
  refine dx_eff 5 rfl (by kernel_rfl) ?_
  have f119 := ((f35.ext d41).ext c76).ext cs108
  have f120 := os_76.ext cs108
  refine sx_appendRt (xb := b8) (r := (((ts.getD k rt0).1), ((ts.getD k rt0).2.1), ((ts.getD k rt0).2.2.1), ((ts.getD k rt0).2.2.2.1), ((ts.getD k rt0).2.2.2.2))) rfl xelt34 rfl rfl f119 fs108.sv f120 (by omega) (by omega) (by omega) (by unfold maxLen; omega) (fun a116 w116 fw116 cw116 => ?_)
  have zw116 := cw116.size
  have q122 := Chg.step (l := b8) (h := (wl19.heap.size)) (Chg.zero (l := b8) (h := (wl19.heap.size)) ((d41.t c76).t cs108)) cw116 (by omega)
  have s121 : Chg b8 (wl19.heap.size) w32 w116 := q122
  refine wl_nil ?_
  refine dx_next s121 ?_
  refine dt 6 rfl rfl rfl rfl s121 (fun _ hS => px_field rfl xfld36x1) ?_
  refine dx_eff 7 rfl (by kernel_rfl) ?_
  have f124 := f114.chg cw116 (by omega)
  refine sx_store (vs := [a116]) rfl rfl f124 (cells_one (fw116).toS.one) Tryd.sizeOf34 (nbl rfl) (one_cons (fw116).toS.one one_nil) (fun w123 sw123 fw123 cw123 => ?_)
  have zw123 := cw123.size
  have gw123 : Blk w123 b8 [.string pv, a116] 36 := fw123
  have q126 := Chg.step (l := b8) (h := (wl19.heap.size)) (Chg.zero (l := b8) (h := (wl19.heap.size)) ((d41.t c76).t cs108)) cw116 (by omega)
  have q127 := Chg.step (l := b8) (h := (wl19.heap.size)) q126 cw123 (by omega)
  have s125 : Chg b8 (wl19.heap.size) w32 w123 := q127
  refine wl_nil ?_
  refine dx_next s125 ?_
  refine dx_done (by kernel_rfl) ?_
  refine q_bn (q_n (k27 _ _ ?_))
  refine sx_sub (Sub.c 2 rfl (.c 3 rfl (.c 10 rfl (.c 11 rfl (.c 12 rfl .nil))))) ?_
  refine sx_region ?_
  refine sp rfl (px_add rfl rfl (by omega)) ?_
  refine mv rfl rfl (wl_nil ?_)
  have q128 := Chg.step (l := 0) (h := 0) (Chg.zero (l := 0) (h := 0) (cwl19.t cb30)) cw32 (by omega)
  have q129 := Chg.step (l := 0) (h := 0) q128 ((d41.t c76).t cs108) (by omega)
  have q130 := Chg.step (l := 0) (h := 0) q129 cw116 (by omega)
  have q131 := Chg.step (l := 0) (h := 0) q130 cw123 (by omega)
  have f134 := ((f37.ext d41).ext c76).ext cs108
  have f135 := f134.chg cw116 (by omega)
  have f136 := f135.chg cw123 (by omega)
  have f137 := fw116.chgX cw123
  exact fun a ha => ⟨_, by omega, (k + 1), a116, (us ++ [s76]), ha.sub (Sub.c 2 rfl (.c 3 rfl (.c 10 rfl (.c 11 rfl (.c 12 (look_int (t := 12) rfl (by first | omega | simp)) .nil))))), q131, f136, gw123, (by rw [take_snoc (by omega)]; exact (f137).mono (by omega) (by omega)), rfl, by omega⟩
 refine sx_exit ?_
 refine q_e (q_e (q_bx (q_n (k11 _ _ ?_))))
 refine sx_seq fun K138 k138 => sx_region ?_
 refine sp rfl (px_load rfl (hb_b8.loadA (vs := [.string pv, s]) (look_lit rfl) Tryd.isAgg36 Tryd.sizeOf36)) ?_
 refine sx_store (vs := [.string pv, s]) rfl rfl hb_b4 rfl Tryd.sizeOf36 (nbl rfl) (one_cons rfl (one_cons (hs_s).toS.one one_nil)) (fun w139 sw139 fw139 cw139 => ?_)
 have zw139 := cw139.size
 have gw139 : Blk w139 b4 [.string pv, s] 36 := fw139
 refine wl_nil (q_n (k138 _ _ ?_))
 refine sx_retc ?_
 refine sx_ret1 Tryd.results38 ⟨_, rfl, gw139.loadA (vs := [.string pv, s]) (look_lit rfl) Tryd.isAgg36 Tryd.sizeOf36⟩ ?_
 have ek : k = ts.length := by omega
 subst ek
 have f140 := hs_s.chg cw139 (by omega)
 have hO := f140
 rw [List.take_length] at hO
 have q141 := Chg.step (l := 0) (h := 0) (Chg.zero (l := 0) (h := 0) cwl19) cw139 (by omega)
 exact ⟨_, _, rfl, hO.mono (by omega) (by omega), q141⟩

theorem c_iRatePut {w : World} {pv : ByteArray} {vt : Value} {lvt uvt : Nat} {ts : List Rt} {vvt : List Value} {f1 : ByteArray} {t1 : ByteArray} {n1 : Bool} {v1 : Value} {lv1 uv1 : Nat} {z1 : List Int} {p1 : Int} (hG0 : Glob w) (hvt : RtS w lvt uvt vt ts vvt) (hv1 : Sl w lv1 uv1 v1 (z1)) (h63 : ts.length ≤ 4611686018427387904) (hz : ∀ i, i < ts.length → (ts.getD i rt0).2.2.2.1.length ≤ 4611686018427387904) (hz1 : z1.length ≤ 4611686018427387904) :
  Ret Tryd.prog 10 [.agg #[.string pv, vt], .agg #[.string f1, .string t1, .bool n1, v1, .int .i64 p1]] w fun v w' => ∃ s us, v = .tuple #[.agg #[.string ((rPut pv ts (f1, t1, n1, z1, p1)).1), s], .bool ((rPut pv ts (f1, t1, n1, z1, p1)).2.2)] ∧ RtG w' (w.heap.size) (w'.heap.size) s 44 intT ((rPut pv ts (f1, t1, n1, z1, p1)).2.1) us ∧ Chg 0 0 w w' := by
 have hvt0 := hvt.fit
 have hv10 := hv1.fit
 refine sx_enter Tryd.func10 rfl Tryd.ntmps10 (nbl rfl) ?_
 refine sx_seq fun K1 k1 => sx_region ?_
 refine sx_box [.string pv, vt] rfl rfl rfl (fun b2 w3 eb2 sb2 fb2 cb2 => ?_)
 have zw3 := cb2.size
 refine sx_box [.string f1, .string t1, .bool n1, v1, .int .i64 p1] rfl rfl rfl (fun b4 w5 eb4 sb4 fb4 cb4 => ?_)
 have zw5 := cb4.size
 refine sx_alloc [.string (⟨#[]⟩), (.slice none 0 0)] rfl Tryd.zeroValue36 rfl (fun b6 w7 eb6 sb6 fb6 cb6 => ?_)
 have zw7 := cb6.size
 refine av rfl rfl (wl_nil (q_n (k1 _ _ ?_)))
 refine sx_seq fun K8 k8 => ?_
 refine sx_seq fun K9 k9 => sx_region ?_
 have f10 := fb2.ext cb4
 have f11 := f10.ext cb6
 refine sp rfl (px_load rfl (f11.loadA (vs := [.string pv, vt]) (look_lit rfl) Tryd.isAgg36 Tryd.sizeOf36)) ?_
 have f12 := hG0.ext cb2
 have f13 := f12.ext cb4
 have f14 := f13.ext cb6
 have f15 := hvt0.ext cb2
 have f16 := f15.ext cb4
 have f17 := f16.ext cb6
 refine sx_call rfl rfl Tryd.call36 (c_iRatesOk f14 f17 (by first | omega | (rw [← hput]; have := putR_len (ts := ts) (r := (f1, t1, n1, z1, p1)); omega)) (by first | assumption | (rw [← hput]; exact putR_hz hz hz1))) (fun v18 w18 p18 => ?_)
 obtain ⟨rfl, c18⟩ := p18
 have zw18 := c18.size
 refine sp rfl (px_notP rfl) ?_
 refine mv rfl rfl ?_
 refine sx_tmpP (t := 11) rfl (fun h79 => ?_) (fun h79 => ?_)
 ·
  refine sx_guardF rfl rfl rfl rfl rfl rfl ?_
  refine sx_guardF rfl rfl rfl rfl rfl rfl ?_
  refine sx_guardF rfl rfl rfl rfl rfl rfl ?_
  refine sp rfl (px_pick rfl rfl) ?_
  refine wl_nil (q_n (k9 _ _ ?_))
  refine sx_condT rfl ?_
  refine sx_seq fun K19 k19 => sx_region ?_
  refine sp rfl (px_build rfl (xbld36x  _)) ?_
  have f21 := fb6.ext c18
  refine sx_store (vs := [.string (⟨#[]⟩), (.slice none 0 0)]) rfl rfl f21 rfl Tryd.sizeOf36 (nbl rfl) (o2 rfl rfl) (fun w20 sw20 fw20 cw20 => ?_)
  have zw20 := cw20.size
  have gw20 : Blk w20 b6 [.string (⟨#[]⟩), (.slice none 0 0)] 36 := fw20
  refine av rfl rfl (wl_nil (q_n (k19 _ _ ?_)))
  refine sx_sub (Sub.c 2 rfl (.c 3 rfl (.c 4 rfl (.c 5 rfl .nil)))) ?_
  refine sx_retc ?_
  refine q_r (sx_ret2 Tryd.results10 ⟨_, rfl, gw20.loadA (vs := [.string (⟨#[]⟩), (.slice none 0 0)]) (look_lit rfl) Tryd.isAgg36 Tryd.sizeOf36⟩ rfl ?_)
  rw [rPut_no (fun h => by first | exact h79 h.1 | exact h79x1 h.2)]
  have q22 := Chg.step (l := 0) (h := 0) (Chg.zero (l := 0) (h := 0) (((cb2.t cb4).t cb6).t c18)) cw20 (by omega)
  exact ⟨_, [], rfl, RtG.nil _ _ _ _ _ (by omega), q22⟩
 refine sx_guardT rfl rfl rfl ?_
 have f23 := fb4.ext cb6
 have f24 := f23.ext c18
 refine sp rfl (px_load rfl (f24.loadA (vs := [.string f1, .string t1, .bool n1, v1, .int .i64 p1]) (look_lit rfl) Tryd.isAgg44 Tryd.sizeOf44)) ?_
 refine sx_guardT rfl rfl rfl ?_
 have f25 := f14.ext c18
 have f26 := hv10.ext cb2
 have f27 := f26.ext cb4
 have f28 := f27.ext cb6
 have f29 := f28.ext c18
 refine sx_call rfl rfl Tryd.call37 (c_iRateOk f25 f29 (by omega)) (fun v30 w30 p30 => ?_)
 obtain ⟨rfl, c30⟩ := p30
 have zw30 := c30.size
 refine sx_guardT rfl rfl rfl ?_
 refine sp rfl (px_notP rfl) ?_
 refine sp rfl (px_pick rfl rfl) ?_
 refine wl_nil (q_n (k9 _ _ ?_))
 refine sx_condP rfl (fun h79x1 => ?_) (fun h79x1 => ?_)
 ·
  refine sx_seq fun K31 k31 => sx_region ?_
  refine sp rfl (px_build rfl (xbld36x  _)) ?_
  have f34 := (fb6.ext c18).ext c30
  refine sx_store (vs := [.string (⟨#[]⟩), (.slice none 0 0)]) rfl rfl f34 rfl Tryd.sizeOf36 (nbl rfl) (o2 rfl rfl) (fun w32 sw32 fw32 cw32 => ?_)
  have zw32 := cw32.size
  have gw32 : Blk w32 b6 [.string (⟨#[]⟩), (.slice none 0 0)] 36 := fw32
  refine av rfl rfl (wl_nil (q_n (k31 _ _ ?_)))
  refine sx_sub (Sub.c 2 rfl (.c 3 rfl (.c 4 rfl (.c 5 rfl .nil)))) ?_
  refine sx_retc ?_
  refine q_r (sx_ret2 Tryd.results10 ⟨_, rfl, gw32.loadA (vs := [.string (⟨#[]⟩), (.slice none 0 0)]) (look_lit rfl) Tryd.isAgg36 Tryd.sizeOf36⟩ rfl ?_)
  rw [rPut_no (fun h => by first | exact h79 h.1 | exact h79x1 h.2)]
  have q35 := Chg.step (l := 0) (h := 0) (Chg.zero (l := 0) (h := 0) ((((cb2.t cb4).t cb6).t c18).t c30)) cw32 (by omega)
  exact ⟨_, [], rfl, RtG.nil _ _ _ _ _ (by omega), q35⟩
 have hT := Decidable.not_not.1 h79
 have hP := Decidable.not_not.1 h79x1
 have hl12 := hT.2.1
 have hI : ∀ i, i < ts.length → (ts.getD i rt0).2.2.2.1.length ≤ 1048576 := fun i hi => Nat.le_trans (hT.2.2.1 i hi).2.2.2.2.2 (by decide)
 have hI1 : z1.length ≤ 1048576 := Nat.le_trans hP.2.2.2.2.2 (by decide)
 refine sx_skip ?_
 refine q_n (k8 _ _ ?_)
 refine sx_seq fun K36 k36 => sx_region ?_
 have f38 := (f11.ext c18).ext c30
 refine sp rfl (px_load rfl (f38.loadA (vs := [.string pv, vt]) (look_lit rfl) Tryd.isAgg36 Tryd.sizeOf36)) ?_
 have f40 := (f17.ext c18).ext c30
 refine sx_call rfl rfl Tryd.call38 (c_ratesCopy f40 (by omega) (by assumption)) (fun v41 w41 p41 => ?_)
 obtain ⟨s41, us41, rfl, os_41, c41⟩ := p41
 have zw41 := c41.size
 refine sx_alloc [.string (⟨#[]⟩), (.slice none 0 0)] rfl Tryd.zeroValue36 rfl (fun b42 w43 eb42 sb42 fb42 cb42 => ?_)
 have zw43 := cb42.size
 have f45 := os_41.ext cb42
 refine sx_store (vs := [.string pv, s41]) rfl rfl fb42 rfl Tryd.sizeOf36 (nbl rfl) (one_cons rfl (one_cons (f45).toS.one one_nil)) (fun w44 sw44 fw44 cw44 => ?_)
 have zw44 := cw44.size
 have gw44 : Blk w44 b42 [.string pv, s41] 36 := fw44
 refine wl_nil (q_n (k36 _ _ ?_))
 refine sx_sub (Sub.c 3 rfl (.c 4 rfl (.c 5 rfl (.c 6 rfl .nil)))) ?_
 refine sx_seq fun K46 k46 => ?_
 refine sx_seq fun K47 k47 => sx_region ?_
 refine sp rfl (px_field rfl xfld36x1) ?_
 refine sp rfl (px_load rfl (gw44.load1 rfl Tryd.isAgg34)) ?_
 have f48 := f45.chg cw44 (by omega)
 refine sp rfl (px_len rfl Tryd.underlying34 (f48).toS.sv) ?_
 refine mv rfl rfl (wl_nil (q_n (k47 _ _ ?_)))
 refine sx_block ?_
 have f52 := ((f24.ext c30).ext c41).ext cb42
 have f53 := f52.chg cw44 (by omega)
 have f57 := (((fb6.ext c18).ext c30).ext c41).ext cb42
 have f58 := f57.chg cw44 (by omega)
 refine sx_loop (fun mm aa w' => ∃ (k : Nat), Agr 65 [(3, .pointer (some ⟨b4, 0, none⟩)), (4, .pointer (some ⟨b6, 0, none⟩)), (5, .bool false), (6, .pointer (some ⟨b42, 0, none⟩)), (20, s41), (21, .int .i64 (↑((ts).length))), (22, .int .i64 ↑k)] aa ∧ Chg 0 0 w44 w' ∧ Blk w' b4 [.string f1, .string t1, .bool n1, v1, .int .i64 p1] 44 ∧ Blk w' b6 [.string (⟨#[]⟩), (.slice none 0 0)] 36 ∧ Blk w' b42 [.string pv, s41] 36 ∧ (mm = ts.length - k) ∧ (k ≤ ts.length) ∧ (∀ i, i < k → ¬ ((ts.getD i rt0).1 = f1 ∧ (ts.getD i rt0).2.1 = t1))) (_) (fun a ha => ⟨0, ha.sub (Sub.c 3 rfl (.c 4 rfl (.c 5 rfl (.c 6 rfl (.c 20 rfl (.c 21 rfl (.c 22 (look_int (t := 22) rfl (by first | omega | simp)) .nil))))))), Chg.refl _ _ _, f53, f58, gw44, rfl, by omega, fun i hi => by omega⟩) ?_
 rintro mm aa wl49 ⟨k, hAwl49, cwl49, hb_b4, hb_b6, hb_b42, hm, hk, hn⟩
 refine (show cw Tryd.prog 65 _ _ _ wl49 from ?_) aa hAwl49
 clear hAwl49
 have zwl49 := cwl49.size
 refine sx_seq fun K59 k59 => sx_region ?_
 refine sp rfl (px_lt rfl rfl) ?_
 refine wl_nil (q_n (k59 _ _ ?_))
 refine sx_seq fun K60 k60 => ?_
 refine sx_condP rfl (fun h83 => ?_) (fun h83 => ?_)
 ·
  refine sx_skip ?_
  refine q_n (k60 _ _ ?_)
  refine sx_seq fun K61 k61 => ?_
  refine sx_block ?_
  refine sx_seq fun K62 k62 => sx_region ?_
  refine mv rfl rfl (av rfl rfl (wl_nil (q_n (k62 _ _ ?_))))
  refine sx_seq fun K63 k63 => ?_
  by_cases ph84 : (ts.getD k rt0).1 = f1
  ·
   by_cases ph84x1 : (ts.getD k rt0).2.1 = t1
   ·
    have eat := atI_some (by omega) hn ⟨ph84, ph84x1⟩
    have hput : putR ts (f1, t1, n1, z1, p1) = ts.set k (f1, t1, n1, z1, p1) := by unfold putR; rw [if_pos (show 0 ≤ atI ts f1 t1 by omega)]; show ts.set (atI ts f1 t1).toNat _ = _; rw [eat, Int.toNat_natCast]
    have f66 := ((f25.ext c30).ext c41).ext cb42
    have f67 := f66.chg cw44 (by omega)
    have f68 := f67.ext cwl49
    have f70 := (f38.ext c41).ext cb42
    have f71 := f70.chg cw44 (by omega)
    have f72 := f71.ext cwl49
    have f74 := (f40.ext c41).ext cb42
    have f75 := f74.chg cw44 (by omega)
    have f76 := f75.ext cwl49
    have f79 := ((f29.ext c30).ext c41).ext cb42
    have f80 := f79.chg cw44 (by omega)
    have f81 := f80.ext cwl49
    have f82 := f48.ext cwl49
    refine dx_region (fun w' => Chg 0 0 wl49 w') (by kernel_rfl) (Chg.zero (Chg.drew _)) ?_
    have d83 := Chg.drew wl49
    have s83 : Chg 0 0 wl49 (World.drew wl49) := Chg.zero (Chg.drew _)
    have y83 : (World.drew wl49).heap.size = wl49.heap.size := rfl
    generalize World.drew wl49 = w83 at *
    have zw83 := d83.size
    refine dt 0 rfl rfl rfl rfl s83 (fun _ hS => px_field rfl xfld36x1) ?_
    refine dt 1 rfl rfl rfl rfl s83 (fun _ hS => px_load rfl ((hb_b42.chg hS (by omega)).load1 rfl Tryd.isAgg34)) ?_
    refine dt 2 rfl rfl rfl rfl s83 (fun _ hS => px_move rfl) ?_
    refine dt 3 rfl rfl rfl rfl s83 (fun _ hS => px_indexK (j := k) rfl rfl (by omega) Tryd.underlying34 Tryd.sizeOf44 (((f82).toS.sv).chg hS (by omega)) (by omega)) ?_
    refine dt 4 rfl rfl rfl rfl s83 (fun _ hS => px_field rfl xfld44x0) ?_
    refine dt 5 rfl rfl rfl rfl s83 (fun _ hS => px_load rfl ((((f82).toS.sv).chg hS (by omega)).load1 (rt_look1 (q := 0) (f82).toS.len (by omega) rfl) Tryd.isAgg9)) ?_
    refine dt 6 rfl rfl rfl rfl s83 (fun _ hS => px_field rfl xfld44x0) ?_
    refine dt 7 rfl rfl rfl rfl s83 (fun _ hS => px_load rfl ((hb_b4.chg hS (by omega)).load1 rfl Tryd.isAgg9)) ?_
    refine dt 8 rfl rfl rfl rfl s83 (fun _ hS => px_eqS rfl rfl) ?_
    refine dt 9 rfl rfl rfl rfl s83 (fun _ hS => px_move rfl) ?_
    have h84 : (ts.getD k rt0).1 = f1 := by first | omega | exact ph84
    refine dx_tmpPT (t := 34) rfl h84 ?_
    refine dx_takeG 10 rfl rfl rfl rfl rfl rfl (by kernel_rfl) (by kernel_rfl) (by kernel_rfl) s83 (fun _ hS => px_field rfl xfld36x1) ?_
    refine dx_takeG 11 rfl rfl rfl rfl rfl rfl (by kernel_rfl) (by kernel_rfl) (by kernel_rfl) s83 (fun _ hS => px_load rfl ((hb_b42.chg hS (by omega)).load1 rfl Tryd.isAgg34)) ?_
    refine dx_takeG 12 rfl rfl rfl rfl rfl rfl (by kernel_rfl) (by kernel_rfl) (by kernel_rfl) s83 (fun _ hS => px_move rfl) ?_
    refine dx_takeG 13 rfl rfl rfl rfl rfl rfl (by kernel_rfl) (by kernel_rfl) (by kernel_rfl) s83 (fun _ hS => px_indexK (j := k) rfl rfl (by omega) Tryd.underlying34 Tryd.sizeOf44 (((f82).toS.sv).chg hS (by omega)) (by omega)) ?_
    refine dx_takeG 14 rfl rfl rfl rfl rfl rfl (by kernel_rfl) (by kernel_rfl) (by kernel_rfl) s83 (fun _ hS => px_field rfl xfld44x1) ?_
    refine dx_takeG 15 rfl rfl rfl rfl rfl rfl (by kernel_rfl) (by kernel_rfl) (by kernel_rfl) s83 (fun _ hS => px_load rfl ((((f82).toS.sv).chg hS (by omega)).load1 (rt_look1 (q := 1) (f82).toS.len (by omega) rfl) Tryd.isAgg9)) ?_
    refine dx_takeG 16 rfl rfl rfl rfl rfl rfl (by kernel_rfl) (by kernel_rfl) (by kernel_rfl) s83 (fun _ hS => px_field rfl xfld44x1) ?_
    refine dx_takeG 17 rfl rfl rfl rfl rfl rfl (by kernel_rfl) (by kernel_rfl) (by kernel_rfl) s83 (fun _ hS => px_load rfl ((hb_b4.chg hS (by omega)).load1 rfl Tryd.isAgg9)) ?_
    refine dx_takeG 18 rfl rfl rfl rfl rfl rfl (by kernel_rfl) (by kernel_rfl) (by kernel_rfl) s83 (fun _ hS => px_eqS rfl rfl) ?_
    refine dt 19 rfl rfl rfl rfl s83 (fun _ hS => px_pick rfl rfl) ?_
    refine dx_done (by kernel_rfl) ?_
    refine q_n (k63 _ _ ?_)
    refine sx_sub (Sub.c 3 rfl (.c 4 rfl (.c 5 rfl (.c 6 rfl (.c 7 rfl (.c 20 rfl (.c 21 rfl (.c 22 rfl (.c 44 rfl .nil))))))))) ?_
    have h84x1 : (ts.getD k rt0).2.1 = t1 := by first | omega | exact ph84x1
    refine sx_condPT rfl h84x1 ?_
    refine sx_seq fun K84 k84 => ?_
    have f85 := f68.ext d83
    have f86 := f72.ext d83
    have f87 := hb_b4.ext d83
    have f89 := hb_b42.ext d83
    have f90 := f76.ext d83
    have f92 := f82.ext d83
    have f93 := ((f82).toS.nest k (by omega)).ext d83
    refine dx_region (fun w' => Chg w30.heap.size (w41.heap.size) w83 w') (by kernel_rfl) (Chg.zero (Chg.drew _)) ?_
    have d94 := Chg.drew w83
    have s94 : Chg w30.heap.size (w41.heap.size) w83 (World.drew w83) := Chg.zero (Chg.drew _)
    have y94 : (World.drew w83).heap.size = w83.heap.size := rfl
    generalize World.drew w83 = w94 at *
    have zw94 := d94.size
    refine dt 0 rfl rfl rfl rfl s94 (fun _ hS => px_field rfl xfld36x1) ?_
    refine dt 1 rfl rfl rfl rfl s94 (fun _ hS => px_load rfl ((f89.chg hS (by omega)).load1 rfl Tryd.isAgg34)) ?_
    refine dt 2 rfl rfl rfl rfl s94 (fun _ hS => px_move rfl) ?_
    refine dt 3 rfl rfl rfl rfl s94 (fun _ hS => px_load rfl ((f87.chg hS (by omega)).loadA (vs := [.string f1, .string t1, .bool n1, v1, .int .i64 p1]) (look_lit rfl) Tryd.isAgg44 Tryd.sizeOf44)) ?_
    refine dx_eff 4 rfl (by kernel_rfl) ?_
    have f95 := (f81.ext d83).ext d94
    refine sx_call rfl rfl Tryd.call39 (c_rateCopy f95 (by omega)) (fun v96 w96 p96 => ?_)
    obtain ⟨s96, rfl, os_96, c96⟩ := p96
    have zw96 := c96.size
    have s97 : Chg w30.heap.size (w41.heap.size) w83 w96 := (Chg.zero (l := w30.heap.size) (h := (w41.heap.size)) (d94.t c96))
    refine wl_nil ?_
    refine dx_next s97 ?_
    refine dt 5 rfl rfl rfl rfl s97 (fun _ hS => px_indexKw (j := k) rfl rfl (by omega) Tryd.underlying34 Tryd.sizeOf44 (f92).toS.sv (by omega)) ?_
    refine dx_eff 6 rfl (by kernel_rfl) ?_
    have f100 := (f92.ext d94).ext c96
    refine sx_storeRt (r := (f1, t1, n1, z1, p1)) (q := s96) (k := k) rfl rfl f100 rfl (by omega) os_96 (by omega) Tryd.sizeOf44 (fun w98 sw98 fw98 cw98 => ?_)
    have zw98 := cw98.size
    have q102 := Chg.step (l := w30.heap.size) (h := (w41.heap.size)) (Chg.zero (l := w30.heap.size) (h := (w41.heap.size)) (d94.t c96)) cw98 (by omega)
    have s101 : Chg w30.heap.size (w41.heap.size) w83 w98 := q102
    refine wl_nil ?_
    refine dx_next s101 ?_
    refine dx_done (by kernel_rfl) ?_
    refine q_n (k84 _ _ ?_)
    refine sx_sub (Sub.c 3 rfl (.c 4 rfl (.c 5 rfl (.c 6 rfl (.c 20 rfl (.c 21 rfl (.c 22 rfl .nil))))))) ?_
    refine sx_seq fun K103 k103 => sx_region ?_
    have f106 := ((f89.ext d94).ext c96).chg cw98 (by omega)
    refine sp rfl (px_load rfl (f106.loadA (vs := [.string pv, s41]) (look_lit rfl) Tryd.isAgg36 Tryd.sizeOf36)) ?_
    have f110 := (((hb_b6.ext d83).ext d94).ext c96).chg cw98 (by omega)
    refine sx_store (vs := [.string pv, s41]) rfl rfl f110 rfl Tryd.sizeOf36 (nbl rfl) (one_cons rfl (one_cons (fw98).toS.one one_nil)) (fun w107 sw107 fw107 cw107 => ?_)
    have zw107 := cw107.size
    have gw107 : Blk w107 b6 [.string pv, s41] 36 := fw107
    refine av rfl rfl (wl_nil (q_n (k103 _ _ ?_)))
    refine sx_retc ?_
    refine q_br (q_r (q_r (q_br (q_r (sx_ret2 Tryd.results10 ⟨_, rfl, gw107.loadA (vs := [.string pv, s41]) (look_lit rfl) Tryd.isAgg36 Tryd.sizeOf36⟩ rfl ?_)))))
    have f111 := fw98.chg cw107 (by omega)
    have hG := f111
    rw [← hput] at hG
    rw [rPut_ok hT hP (RsOk_put hT hP (show 0 ≤ atI ts f1 t1 by omega))]
    have q112 := Chg.step (l := 0) (h := 0) (Chg.zero (l := 0) (h := 0) ((((((cb2.t cb4).t cb6).t c18).t c30).t c41).t cb42)) cw44 (by omega)
    have q113 := Chg.step (l := 0) (h := 0) q112 (((cwl49.t d83).t d94).t c96) (by omega)
    have q114 := Chg.step (l := 0) (h := 0) q113 cw98 (by omega)
    have q115 := Chg.step (l := 0) (h := 0) q114 cw107 (by omega)
    exact ⟨_, _, rfl, hG.mono (by omega) (by omega), q115⟩
   have f118 := ((f25.ext c30).ext c41).ext cb42
   have f119 := f118.chg cw44 (by omega)
   have f120 := f119.ext cwl49
   have f122 := (f38.ext c41).ext cb42
   have f123 := f122.chg cw44 (by omega)
   have f124 := f123.ext cwl49
   have f126 := (f40.ext c41).ext cb42
   have f127 := f126.chg cw44 (by omega)
   have f128 := f127.ext cwl49
   have f131 := ((f29.ext c30).ext c41).ext cb42
   have f132 := f131.chg cw44 (by omega)
   have f133 := f132.ext cwl49
   have f134 := f48.ext cwl49
   refine dx_region (fun w' => Chg 0 0 wl49 w') (by kernel_rfl) (Chg.zero (Chg.drew _)) ?_
   have d135 := Chg.drew wl49
   have s135 : Chg 0 0 wl49 (World.drew wl49) := Chg.zero (Chg.drew _)
   have y135 : (World.drew wl49).heap.size = wl49.heap.size := rfl
   generalize World.drew wl49 = w135 at *
   have zw135 := d135.size
   refine dt 0 rfl rfl rfl rfl s135 (fun _ hS => px_field rfl xfld36x1) ?_
   refine dt 1 rfl rfl rfl rfl s135 (fun _ hS => px_load rfl ((hb_b42.chg hS (by omega)).load1 rfl Tryd.isAgg34)) ?_
   refine dt 2 rfl rfl rfl rfl s135 (fun _ hS => px_move rfl) ?_
   refine dt 3 rfl rfl rfl rfl s135 (fun _ hS => px_indexK (j := k) rfl rfl (by omega) Tryd.underlying34 Tryd.sizeOf44 (((f134).toS.sv).chg hS (by omega)) (by omega)) ?_
   refine dt 4 rfl rfl rfl rfl s135 (fun _ hS => px_field rfl xfld44x0) ?_
   refine dt 5 rfl rfl rfl rfl s135 (fun _ hS => px_load rfl ((((f134).toS.sv).chg hS (by omega)).load1 (rt_look1 (q := 0) (f134).toS.len (by omega) rfl) Tryd.isAgg9)) ?_
   refine dt 6 rfl rfl rfl rfl s135 (fun _ hS => px_field rfl xfld44x0) ?_
   refine dt 7 rfl rfl rfl rfl s135 (fun _ hS => px_load rfl ((hb_b4.chg hS (by omega)).load1 rfl Tryd.isAgg9)) ?_
   refine dt 8 rfl rfl rfl rfl s135 (fun _ hS => px_eqS rfl rfl) ?_
   refine dt 9 rfl rfl rfl rfl s135 (fun _ hS => px_move rfl) ?_
   have h84 : (ts.getD k rt0).1 = f1 := by first | omega | exact ph84
   refine dx_tmpPT (t := 34) rfl h84 ?_
   refine dx_takeG 10 rfl rfl rfl rfl rfl rfl (by kernel_rfl) (by kernel_rfl) (by kernel_rfl) s135 (fun _ hS => px_field rfl xfld36x1) ?_
   refine dx_takeG 11 rfl rfl rfl rfl rfl rfl (by kernel_rfl) (by kernel_rfl) (by kernel_rfl) s135 (fun _ hS => px_load rfl ((hb_b42.chg hS (by omega)).load1 rfl Tryd.isAgg34)) ?_
   refine dx_takeG 12 rfl rfl rfl rfl rfl rfl (by kernel_rfl) (by kernel_rfl) (by kernel_rfl) s135 (fun _ hS => px_move rfl) ?_
   refine dx_takeG 13 rfl rfl rfl rfl rfl rfl (by kernel_rfl) (by kernel_rfl) (by kernel_rfl) s135 (fun _ hS => px_indexK (j := k) rfl rfl (by omega) Tryd.underlying34 Tryd.sizeOf44 (((f134).toS.sv).chg hS (by omega)) (by omega)) ?_
   refine dx_takeG 14 rfl rfl rfl rfl rfl rfl (by kernel_rfl) (by kernel_rfl) (by kernel_rfl) s135 (fun _ hS => px_field rfl xfld44x1) ?_
   refine dx_takeG 15 rfl rfl rfl rfl rfl rfl (by kernel_rfl) (by kernel_rfl) (by kernel_rfl) s135 (fun _ hS => px_load rfl ((((f134).toS.sv).chg hS (by omega)).load1 (rt_look1 (q := 1) (f134).toS.len (by omega) rfl) Tryd.isAgg9)) ?_
   refine dx_takeG 16 rfl rfl rfl rfl rfl rfl (by kernel_rfl) (by kernel_rfl) (by kernel_rfl) s135 (fun _ hS => px_field rfl xfld44x1) ?_
   refine dx_takeG 17 rfl rfl rfl rfl rfl rfl (by kernel_rfl) (by kernel_rfl) (by kernel_rfl) s135 (fun _ hS => px_load rfl ((hb_b4.chg hS (by omega)).load1 rfl Tryd.isAgg9)) ?_
   refine dx_takeG 18 rfl rfl rfl rfl rfl rfl (by kernel_rfl) (by kernel_rfl) (by kernel_rfl) s135 (fun _ hS => px_eqS rfl rfl) ?_
   refine dt 19 rfl rfl rfl rfl s135 (fun _ hS => px_pick rfl rfl) ?_
   refine dx_done (by kernel_rfl) ?_
   refine q_n (k63 _ _ ?_)
   refine sx_sub (Sub.c 3 rfl (.c 4 rfl (.c 5 rfl (.c 6 rfl (.c 7 rfl (.c 20 rfl (.c 21 rfl (.c 22 rfl (.c 44 rfl .nil))))))))) ?_
   have h84x1 : ¬ ((ts.getD k rt0).2.1 = t1) := by first | omega | exact ph84x1
   refine sx_condPF rfl h84x1 ?_
   refine sx_skip ?_
   refine q_bn (q_n (k61 _ _ ?_))
   refine sx_region ?_
   refine sp rfl (px_add rfl rfl (by omega)) ?_
   refine mv rfl rfl (wl_nil ?_)
   have f136 := hb_b4.ext d135
   have f137 := hb_b6.ext d135
   have f138 := hb_b42.ext d135
   exact fun a ha => ⟨_, by omega, (k + 1), ha.sub (Sub.c 3 rfl (.c 4 rfl (.c 5 rfl (.c 6 rfl (.c 20 rfl (.c 21 rfl (.c 22 (look_int (t := 22) rfl (by first | omega | simp)) .nil))))))), (cwl49.t d135), f136, f137, f138, rfl, by omega, upto_next hn (fun hh => by first | exact ph84 hh.1 | exact ph84x1 hh.2)⟩
  have f141 := ((f25.ext c30).ext c41).ext cb42
  have f142 := f141.chg cw44 (by omega)
  have f143 := f142.ext cwl49
  have f145 := (f38.ext c41).ext cb42
  have f146 := f145.chg cw44 (by omega)
  have f147 := f146.ext cwl49
  have f149 := (f40.ext c41).ext cb42
  have f150 := f149.chg cw44 (by omega)
  have f151 := f150.ext cwl49
  have f154 := ((f29.ext c30).ext c41).ext cb42
  have f155 := f154.chg cw44 (by omega)
  have f156 := f155.ext cwl49
  have f157 := f48.ext cwl49
  refine dx_region (fun w' => Chg 0 0 wl49 w') (by kernel_rfl) (Chg.zero (Chg.drew _)) ?_
  have d158 := Chg.drew wl49
  have s158 : Chg 0 0 wl49 (World.drew wl49) := Chg.zero (Chg.drew _)
  have y158 : (World.drew wl49).heap.size = wl49.heap.size := rfl
  generalize World.drew wl49 = w158 at *
  have zw158 := d158.size
  refine dt 0 rfl rfl rfl rfl s158 (fun _ hS => px_field rfl xfld36x1) ?_
  refine dt 1 rfl rfl rfl rfl s158 (fun _ hS => px_load rfl ((hb_b42.chg hS (by omega)).load1 rfl Tryd.isAgg34)) ?_
  refine dt 2 rfl rfl rfl rfl s158 (fun _ hS => px_move rfl) ?_
  refine dt 3 rfl rfl rfl rfl s158 (fun _ hS => px_indexK (j := k) rfl rfl (by omega) Tryd.underlying34 Tryd.sizeOf44 (((f157).toS.sv).chg hS (by omega)) (by omega)) ?_
  refine dt 4 rfl rfl rfl rfl s158 (fun _ hS => px_field rfl xfld44x0) ?_
  refine dt 5 rfl rfl rfl rfl s158 (fun _ hS => px_load rfl ((((f157).toS.sv).chg hS (by omega)).load1 (rt_look1 (q := 0) (f157).toS.len (by omega) rfl) Tryd.isAgg9)) ?_
  refine dt 6 rfl rfl rfl rfl s158 (fun _ hS => px_field rfl xfld44x0) ?_
  refine dt 7 rfl rfl rfl rfl s158 (fun _ hS => px_load rfl ((hb_b4.chg hS (by omega)).load1 rfl Tryd.isAgg9)) ?_
  refine dt 8 rfl rfl rfl rfl s158 (fun _ hS => px_eqS rfl rfl) ?_
  refine dt 9 rfl rfl rfl rfl s158 (fun _ hS => px_move rfl) ?_
  have h84 : ¬ ((ts.getD k rt0).1 = f1) := by first | omega | exact ph84
  refine dx_tmpPF (t := 34) rfl h84 ?_
  refine dx_skip 10 rfl rfl rfl rfl rfl rfl rfl (by kernel_rfl) (by kernel_rfl) (by kernel_rfl) s158 ?_
  refine dx_skip 11 rfl rfl rfl rfl rfl rfl rfl (by kernel_rfl) (by kernel_rfl) (by kernel_rfl) s158 ?_
  refine dx_skip 12 rfl rfl rfl rfl rfl rfl rfl (by kernel_rfl) (by kernel_rfl) (by kernel_rfl) s158 ?_
  refine dx_skip 13 rfl rfl rfl rfl rfl rfl rfl (by kernel_rfl) (by kernel_rfl) (by kernel_rfl) s158 ?_
  refine dx_skip 14 rfl rfl rfl rfl rfl rfl rfl (by kernel_rfl) (by kernel_rfl) (by kernel_rfl) s158 ?_
  refine dx_skip 15 rfl rfl rfl rfl rfl rfl rfl (by kernel_rfl) (by kernel_rfl) (by kernel_rfl) s158 ?_
  refine dx_skip 16 rfl rfl rfl rfl rfl rfl rfl (by kernel_rfl) (by kernel_rfl) (by kernel_rfl) s158 ?_
  refine dx_skip 17 rfl rfl rfl rfl rfl rfl rfl (by kernel_rfl) (by kernel_rfl) (by kernel_rfl) s158 ?_
  refine dx_skip 18 rfl rfl rfl rfl rfl rfl rfl (by kernel_rfl) (by kernel_rfl) (by kernel_rfl) s158 ?_
  refine dt 19 rfl rfl rfl rfl s158 (fun _ hS => px_pick rfl rfl) ?_
  refine dx_done (by kernel_rfl) ?_
  refine q_n (k63 _ _ ?_)
  refine sx_sub (Sub.c 3 rfl (.c 4 rfl (.c 5 rfl (.c 6 rfl (.c 7 rfl (.c 20 rfl (.c 21 rfl (.c 22 rfl (.c 44 rfl .nil))))))))) ?_
  refine sx_condF rfl ?_
  refine sx_skip ?_
  refine q_bn (q_n (k61 _ _ ?_))
  refine sx_region ?_
  refine sp rfl (px_add rfl rfl (by omega)) ?_
  refine mv rfl rfl (wl_nil ?_)
  have f159 := hb_b4.ext d158
  have f160 := hb_b6.ext d158
  have f161 := hb_b42.ext d158
  exact fun a ha => ⟨_, by omega, (k + 1), ha.sub (Sub.c 3 rfl (.c 4 rfl (.c 5 rfl (.c 6 rfl (.c 20 rfl (.c 21 rfl (.c 22 (look_int (t := 22) rfl (by first | omega | simp)) .nil))))))), (cwl49.t d158), f159, f160, f161, rfl, by omega, upto_next hn (fun hh => by first | exact ph84 hh.1 | exact ph84x1 hh.2)⟩
 have ek : k = ts.length := by omega
 have eat := atI_none (fun i hi => hn i (by omega))
 have hput : putR ts (f1, t1, n1, z1, p1) = ts ++ [(f1, t1, n1, z1, p1)] := by unfold putR; rw [if_neg (show ¬ 0 ≤ atI ts f1 t1 by omega)]
 refine sx_exit ?_
 refine q_e (q_e (q_bx (q_n (k46 _ _ ?_))))
 refine sx_seq fun K162 k162 => ?_
 refine sx_cut k162 (fun fr w' => ∃ (gs163x0 : Value) (gv163x0 : List Value) (gu163x0 : Nat), fr = [(4, .pointer (some ⟨b6, 0, none⟩)), (5, .bool false), (6, .pointer (some ⟨b42, 0, none⟩))] ∧ Chg w30.heap.size (b42 + 1) wl49 w' ∧ (RtG w' w30.heap.size gu163x0 gs163x0 44 intT (ts ++ [(f1, t1, n1, z1, p1)]) gv163x0) ∧ (Blk w' b42 [.string pv, gs163x0] 36) ∧ (gu163x0 ≤ w'.heap.size)) (fun kc163 => ?_) ?_
 ·
  have f164 := f48.ext cwl49
  have f167 := ((f25.ext c30).ext c41).ext cb42
  have f168 := f167.chg cw44 (by omega)
  have f169 := f168.ext cwl49
  have f171 := (f38.ext c41).ext cb42
  have f172 := f171.chg cw44 (by omega)
  have f173 := f172.ext cwl49
  have f175 := (f40.ext c41).ext cb42
  have f176 := f175.chg cw44 (by omega)
  have f177 := f176.ext cwl49
  have f180 := ((f29.ext c30).ext c41).ext cb42
  have f181 := f180.chg cw44 (by omega)
  have f182 := f181.ext cwl49
  refine dx_region (fun w' => Chg w30.heap.size (b42 + 1) wl49 w') (by kernel_rfl) (Chg.zero (Chg.drew _)) ?_
  have d183 := Chg.drew wl49
  have s183 : Chg w30.heap.size (b42 + 1) wl49 (World.drew wl49) := Chg.zero (Chg.drew _)
  have y183 : (World.drew wl49).heap.size = wl49.heap.size := rfl
  generalize World.drew wl49 = w183 at *
  have zw183 := d183.size
  refine dt 0 rfl rfl rfl rfl s183 (fun _ hS => px_field rfl xfld36x1) ?_
  refine dt 2 rfl rfl rfl rfl s183 (fun _ hS => px_load rfl ((hb_b4.chg hS (by omega)).loadA (vs := [.string f1, .string t1, .bool n1, v1, .int .i64 p1]) (look_lit rfl) Tryd.isAgg44 Tryd.sizeOf44)) ?_
  refine dx_eff2 1 3 rfl rfl (by kernel_rfl) ?_ ?_
  ·
   have f184 := hb_b42.ext d183
   refine sp rfl (px_load rfl (f184.load1 rfl Tryd.isAgg34)) ?_
   have s185 : Chg w30.heap.size (b42 + 1) wl49 w183 := (Chg.zero (l := w30.heap.size) (h := (b42 + 1)) (d183))
   refine wl_nil ?_
   refine dx_next s185 ?_
   refine dx_eff 3 rfl (by kernel_rfl) ?_
   have f186 := f182.ext d183
   refine sx_call rfl rfl Tryd.call39 (c_rateCopy f186 (by omega)) (fun v187 w187 p187 => ?_)
   obtain ⟨s187, rfl, os_187, c187⟩ := p187
   have zw187 := c187.size
   have s188 : Chg w30.heap.size (b42 + 1) wl49 w187 := (Chg.zero (l := w30.heap.size) (h := (b42 + 1)) (d183.t c187))
   refine wl_nil ?_
   refine dx_next s188 ?_
   refine dx_eff 4 rfl (by kernel_rfl) ?_
   refine sx_lit1A5 rfl xelt34 rfl (fun s189 ws189 ss189 fs189 cs189 => ?_)
   have zws189 := cs189.size
   have s190 : Chg w30.heap.size (b42 + 1) wl49 ws189 := (Chg.zero (l := w30.heap.size) (h := (b42 + 1)) ((d183.t c187).t cs189))
   refine wl_nil ?_
   refine dx_next s190 ?_
   refine dx_eff 5 rfl (by kernel_rfl) ?_
   have f194 := ((f164.ext d183).ext c187).ext cs189
   have f195 := os_187.ext cs189
   refine sx_appendRt (xb := b42) (r := (f1, t1, n1, z1, p1)) rfl xelt34 rfl rfl f194 fs189.sv f195 (by omega) (by omega) (by omega) (by unfold maxLen; omega) (fun a191 w191 fw191 cw191 => ?_)
   have zw191 := cw191.size
   have q197 := Chg.step (l := w30.heap.size) (h := (b42 + 1)) (Chg.zero (l := w30.heap.size) (h := (b42 + 1)) ((d183.t c187).t cs189)) cw191 (by omega)
   have s196 : Chg w30.heap.size (b42 + 1) wl49 w191 := q197
   refine wl_nil ?_
   refine dx_next s196 ?_
   refine dt 6 rfl rfl rfl rfl s196 (fun _ hS => px_field rfl xfld36x1) ?_
   refine dx_eff 7 rfl (by kernel_rfl) ?_
   have f200 := (f184.ext c187).ext cs189
   have f201 := f200.chg cw191 (by omega)
   refine sx_store (vs := [a191]) rfl rfl f201 (cells_one (fw191).toS.one) Tryd.sizeOf34 (nbl rfl) (one_cons (fw191).toS.one one_nil) (fun w198 sw198 fw198 cw198 => ?_)
   have zw198 := cw198.size
   have gw198 : Blk w198 b42 [.string pv, a191] 36 := fw198
   have q203 := Chg.step (l := w30.heap.size) (h := (b42 + 1)) (Chg.zero (l := w30.heap.size) (h := (b42 + 1)) ((d183.t c187).t cs189)) cw191 (by omega)
   have q204 := Chg.step (l := w30.heap.size) (h := (b42 + 1)) q203 cw198 (by omega)
   have s202 : Chg w30.heap.size (b42 + 1) wl49 w198 := q204
   refine wl_nil ?_
   refine dx_next s202 ?_
   refine dx_done (by kernel_rfl) ?_
   have f205 := fw191.chgX cw198
   have q206 := Chg.step (l := w30.heap.size) (h := (b42 + 1)) (Chg.zero (l := w30.heap.size) (h := (b42 + 1)) ((d183.t c187).t cs189)) cw191 (by omega)
   have q207 := Chg.step (l := w30.heap.size) (h := (b42 + 1)) q206 cw198 (by omega)
   exact q_n (kw_sub (Sub.c 4 rfl (.c 5 rfl (.c 6 rfl .nil))) (kc163 _ _ ⟨a191, us41 ++ [s187], w191.heap.size, rfl, q207, (f205.mono (Nat.le_refl _) (Nat.le_refl _)), gw198, by omega⟩))
  have f208 := f182.ext d183
  refine sx_call rfl rfl Tryd.call39 (c_rateCopy f208 (by omega)) (fun v209 w209 p209 => ?_)
  obtain ⟨s209, rfl, os_209, c209⟩ := p209
  have zw209 := c209.size
  have s210 : Chg w30.heap.size (b42 + 1) wl49 w209 := (Chg.zero (l := w30.heap.size) (h := (b42 + 1)) (d183.t c209))
  refine wl_nil ?_
  refine dx_next s210 ?_
  refine dx_eff2 1 4 rfl rfl (by kernel_rfl) ?_ ?_
  ·
   have f212 := (hb_b42.ext d183).ext c209
   refine sp rfl (px_load rfl (f212.load1 rfl Tryd.isAgg34)) ?_
   have s213 : Chg w30.heap.size (b42 + 1) wl49 w209 := (Chg.zero (l := w30.heap.size) (h := (b42 + 1)) (d183.t c209))
   refine wl_nil ?_
   refine dx_next s213 ?_
   refine dx_eff 4 rfl (by kernel_rfl) ?_
   refine sx_lit1A5 rfl xelt34 rfl (fun s214 ws214 ss214 fs214 cs214 => ?_)
   have zws214 := cs214.size
   have s215 : Chg w30.heap.size (b42 + 1) wl49 ws214 := (Chg.zero (l := w30.heap.size) (h := (b42 + 1)) ((d183.t c209).t cs214))
   refine wl_nil ?_
   refine dx_next s215 ?_
   refine dx_eff 5 rfl (by kernel_rfl) ?_
   have f219 := ((f164.ext d183).ext c209).ext cs214
   have f220 := os_209.ext cs214
   refine sx_appendRt (xb := b42) (r := (f1, t1, n1, z1, p1)) rfl xelt34 rfl rfl f219 fs214.sv f220 (by omega) (by omega) (by omega) (by unfold maxLen; omega) (fun a216 w216 fw216 cw216 => ?_)
   have zw216 := cw216.size
   have q222 := Chg.step (l := w30.heap.size) (h := (b42 + 1)) (Chg.zero (l := w30.heap.size) (h := (b42 + 1)) ((d183.t c209).t cs214)) cw216 (by omega)
   have s221 : Chg w30.heap.size (b42 + 1) wl49 w216 := q222
   refine wl_nil ?_
   refine dx_next s221 ?_
   refine dt 6 rfl rfl rfl rfl s221 (fun _ hS => px_field rfl xfld36x1) ?_
   refine dx_eff 7 rfl (by kernel_rfl) ?_
   have f224 := f212.ext cs214
   have f225 := f224.chg cw216 (by omega)
   refine sx_store (vs := [a216]) rfl rfl f225 (cells_one (fw216).toS.one) Tryd.sizeOf34 (nbl rfl) (one_cons (fw216).toS.one one_nil) (fun w223 sw223 fw223 cw223 => ?_)
   have zw223 := cw223.size
   have gw223 : Blk w223 b42 [.string pv, a216] 36 := fw223
   have q227 := Chg.step (l := w30.heap.size) (h := (b42 + 1)) (Chg.zero (l := w30.heap.size) (h := (b42 + 1)) ((d183.t c209).t cs214)) cw216 (by omega)
   have q228 := Chg.step (l := w30.heap.size) (h := (b42 + 1)) q227 cw223 (by omega)
   have s226 : Chg w30.heap.size (b42 + 1) wl49 w223 := q228
   refine wl_nil ?_
   refine dx_next s226 ?_
   refine dx_done (by kernel_rfl) ?_
   have f229 := fw216.chgX cw223
   have q230 := Chg.step (l := w30.heap.size) (h := (b42 + 1)) (Chg.zero (l := w30.heap.size) (h := (b42 + 1)) ((d183.t c209).t cs214)) cw216 (by omega)
   have q231 := Chg.step (l := w30.heap.size) (h := (b42 + 1)) q230 cw223 (by omega)
   exact q_n (kw_sub (Sub.c 4 rfl (.c 5 rfl (.c 6 rfl .nil))) (kc163 _ _ ⟨a216, us41 ++ [s209], w216.heap.size, rfl, q231, (f229.mono (Nat.le_refl _) (Nat.le_refl _)), gw223, by omega⟩))
  refine sx_lit1A5 rfl xelt34 rfl (fun s232 ws232 ss232 fs232 cs232 => ?_)
  have zws232 := cs232.size
  have s233 : Chg w30.heap.size (b42 + 1) wl49 ws232 := (Chg.zero (l := w30.heap.size) (h := (b42 + 1)) ((d183.t c209).t cs232))
  refine wl_nil ?_
  refine dx_next s233 ?_
  refine dx_eff 1 rfl (by kernel_rfl) ?_
  have f236 := ((hb_b42.ext d183).ext c209).ext cs232
  refine sp rfl (px_load rfl (f236.load1 rfl Tryd.isAgg34)) ?_
  have s237 : Chg w30.heap.size (b42 + 1) wl49 ws232 := (Chg.zero (l := w30.heap.size) (h := (b42 + 1)) ((d183.t c209).t cs232))
  refine wl_nil ?_
  refine dx_next s237 ?_
  refine dx_eff 5 rfl (by kernel_rfl) ?_
  have f241 := ((f164.ext d183).ext c209).ext cs232
  have f242 := os_209.ext cs232
  refine sx_appendRt (xb := b42) (r := (f1, t1, n1, z1, p1)) rfl xelt34 rfl rfl f241 fs232.sv f242 (by omega) (by omega) (by omega) (by unfold maxLen; omega) (fun a238 w238 fw238 cw238 => ?_)
  have zw238 := cw238.size
  have q244 := Chg.step (l := w30.heap.size) (h := (b42 + 1)) (Chg.zero (l := w30.heap.size) (h := (b42 + 1)) ((d183.t c209).t cs232)) cw238 (by omega)
  have s243 : Chg w30.heap.size (b42 + 1) wl49 w238 := q244
  refine wl_nil ?_
  refine dx_next s243 ?_
  refine dt 6 rfl rfl rfl rfl s243 (fun _ hS => px_field rfl xfld36x1) ?_
  refine dx_eff 7 rfl (by kernel_rfl) ?_
  have f246 := f236.chg cw238 (by omega)
  refine sx_store (vs := [a238]) rfl rfl f246 (cells_one (fw238).toS.one) Tryd.sizeOf34 (nbl rfl) (one_cons (fw238).toS.one one_nil) (fun w245 sw245 fw245 cw245 => ?_)
  have zw245 := cw245.size
  have gw245 : Blk w245 b42 [.string pv, a238] 36 := fw245
  have q248 := Chg.step (l := w30.heap.size) (h := (b42 + 1)) (Chg.zero (l := w30.heap.size) (h := (b42 + 1)) ((d183.t c209).t cs232)) cw238 (by omega)
  have q249 := Chg.step (l := w30.heap.size) (h := (b42 + 1)) q248 cw245 (by omega)
  have s247 : Chg w30.heap.size (b42 + 1) wl49 w245 := q249
  refine wl_nil ?_
  refine dx_next s247 ?_
  refine dx_done (by kernel_rfl) ?_
  have f250 := fw238.chgX cw245
  have q251 := Chg.step (l := w30.heap.size) (h := (b42 + 1)) (Chg.zero (l := w30.heap.size) (h := (b42 + 1)) ((d183.t c209).t cs232)) cw238 (by omega)
  have q252 := Chg.step (l := w30.heap.size) (h := (b42 + 1)) q251 cw245 (by omega)
  exact q_n (kw_sub (Sub.c 4 rfl (.c 5 rfl (.c 6 rfl .nil))) (kc163 _ _ ⟨a238, us41 ++ [s209], w238.heap.size, rfl, q252, (f250.mono (Nat.le_refl _) (Nat.le_refl _)), gw245, by omega⟩))
 rintro fr w'163 ⟨gs163x0, gv163x0, gu163x0, rfl, cw'163, xgs163x0, xb42, ygs163x0⟩
 have zw'163 := cw'163.size
 refine sx_seq fun K253 k253 => ?_
 refine sx_seq fun K254 k254 => sx_region ?_
 refine sp rfl (px_load rfl (xb42.loadA (vs := [.string pv, gs163x0]) (look_lit rfl) Tryd.isAgg36 Tryd.sizeOf36)) ?_
 have f257 := ((f25.ext c30).ext c41).ext cb42
 have f258 := f257.chg cw44 (by omega)
 have f259 := f258.ext cwl49
 have f260 := f259.chg cw'163 (by omega)
 refine sx_call rfl rfl Tryd.call36 (c_iRatesOk f260 (xgs163x0).toS (by first | omega | (rw [← hput]; have := putR_len (ts := ts) (r := (f1, t1, n1, z1, p1)); omega)) (by first | assumption | (rw [← hput]; exact putR_hz hz hz1))) (fun v261 w261 p261 => ?_)
 obtain ⟨rfl, c261⟩ := p261
 have zw261 := c261.size
 refine sp rfl (px_notP rfl) ?_
 refine wl_nil (q_n (k254 _ _ ?_))
 refine sx_condP rfl (fun h90 => ?_) (fun h90 => ?_)
 ·
  refine sx_seq fun K262 k262 => sx_region ?_
  refine sp rfl (px_build rfl (xbld36x  _)) ?_
  have f264 := hb_b6.chg cw'163 (by omega)
  have f265 := f264.ext c261
  refine sx_store (vs := [.string (⟨#[]⟩), (.slice none 0 0)]) rfl rfl f265 rfl Tryd.sizeOf36 (nbl rfl) (o2 rfl rfl) (fun w263 sw263 fw263 cw263 => ?_)
  have zw263 := cw263.size
  have gw263 : Blk w263 b6 [.string (⟨#[]⟩), (.slice none 0 0)] 36 := fw263
  refine av rfl rfl (wl_nil (q_n (k262 _ _ ?_)))
  refine sx_retc ?_
  refine q_r (sx_ret2 Tryd.results10 ⟨_, rfl, gw263.loadA (vs := [.string (⟨#[]⟩), (.slice none 0 0)]) (look_lit rfl) Tryd.isAgg36 Tryd.sizeOf36⟩ rfl ?_)
  rw [rPut_bad (fun h => h90 (by rw [← hput]; exact h))]
  have q266 := Chg.step (l := 0) (h := 0) (Chg.zero (l := 0) (h := 0) ((((((cb2.t cb4).t cb6).t c18).t c30).t c41).t cb42)) cw44 (by omega)
  have q267 := Chg.step (l := 0) (h := 0) q266 cwl49 (by omega)
  have q268 := Chg.step (l := 0) (h := 0) q267 cw'163 (by omega)
  have q269 := Chg.step (l := 0) (h := 0) q268 c261 (by omega)
  have q270 := Chg.step (l := 0) (h := 0) q269 cw263 (by omega)
  exact ⟨_, [], rfl, RtG.nil _ _ _ _ _ (by omega), q270⟩
 refine sx_skip ?_
 refine q_n (k253 _ _ ?_)
 refine sx_seq fun K271 k271 => sx_region ?_
 have f272 := xb42.ext c261
 refine sp rfl (px_load rfl (f272.loadA (vs := [.string pv, gs163x0]) (look_lit rfl) Tryd.isAgg36 Tryd.sizeOf36)) ?_
 have f274 := hb_b6.chg cw'163 (by omega)
 have f275 := f274.ext c261
 have f276 := xgs163x0.ext c261
 refine sx_store (vs := [.string pv, gs163x0]) rfl rfl f275 rfl Tryd.sizeOf36 (nbl rfl) (one_cons rfl (one_cons (f276).toS.one one_nil)) (fun w273 sw273 fw273 cw273 => ?_)
 have zw273 := cw273.size
 have gw273 : Blk w273 b6 [.string pv, gs163x0] 36 := fw273
 refine av rfl rfl (wl_nil (q_n (k271 _ _ ?_)))
 refine sx_retc ?_
 refine sx_ret2 Tryd.results10 ⟨_, rfl, gw273.loadA (vs := [.string pv, gs163x0]) (look_lit rfl) Tryd.isAgg36 Tryd.sizeOf36⟩ rfl ?_
 have f277 := f276.chg cw273 (by omega)
 have hG := f277
 rw [← hput] at hG
 rw [rPut_ok hT hP (by rw [hput]; exact Decidable.not_not.1 h90)]
 have q278 := Chg.step (l := 0) (h := 0) (Chg.zero (l := 0) (h := 0) ((((((cb2.t cb4).t cb6).t c18).t c30).t c41).t cb42)) cw44 (by omega)
 have q279 := Chg.step (l := 0) (h := 0) q278 cwl49 (by omega)
 have q280 := Chg.step (l := 0) (h := 0) q279 cw'163 (by omega)
 have q281 := Chg.step (l := 0) (h := 0) q280 c261 (by omega)
 have q282 := Chg.step (l := 0) (h := 0) q281 cw273 (by omega)
 exact ⟨_, _, rfl, hG.mono (by omega) (by omega), q282⟩

theorem c_l08Table {w : World} :
  Ret Tryd.prog 113 [] w fun v w' => ∃ sl, v = sl ∧ Own w' w.heap.size w'.heap.size sl 134 20 4 (crCells tabS) ∧ Chg 0 0 w w' := by
 refine sx_enter Tryd.func113 rfl Tryd.ntmps113 (nbl rfl) ?_
 refine sx_seq fun K1 k1 => sx_region ?_
 refine av rfl rfl (wl_nil (q_n (k1 _ _ ?_)))
 refine sx_seq fun K2 k2 => sx_region ?_
 refine sp rfl (px_build rfl (xbld134x0x1x2x3 rfl rfl rfl rfl _)) ?_
 refine sp rfl (px_build rfl (xbld134x0x1x2x3 rfl rfl rfl rfl _)) ?_
 refine sp rfl (px_build rfl (xbld134x0x1x2x3 rfl rfl rfl rfl _)) ?_
 refine sp rfl (px_build rfl (xbld134x0x1x2x3 rfl rfl rfl rfl _)) ?_
 refine sp rfl (px_build rfl (xbld134x0x1x2x3 rfl rfl rfl rfl _)) ?_
 refine sp rfl (px_build rfl (xbld134x0x1x2x3 rfl rfl rfl rfl _)) ?_
 refine sp rfl (px_build rfl (xbld134x0x1x2x3 rfl rfl rfl rfl _)) ?_
 refine sp rfl (px_build rfl (xbld134x0x1x2x3 rfl rfl rfl rfl _)) ?_
 refine sp rfl (px_build rfl (xbld134x0x1x2x3 rfl rfl rfl rfl _)) ?_
 refine sp rfl (px_build rfl (xbld134x0x1x2x3 rfl rfl rfl rfl _)) ?_
 refine sp rfl (px_build rfl (xbld134x0x1x2x3 rfl rfl rfl rfl _)) ?_
 refine sp rfl (px_build rfl (xbld134x0x1x2x3 rfl rfl rfl rfl _)) ?_
 refine sp rfl (px_build rfl (xbld134x0x1x2x3 rfl rfl rfl rfl _)) ?_
 refine sp rfl (px_build rfl (xbld134x0x1x2x3 rfl rfl rfl rfl _)) ?_
 refine sp rfl (px_build rfl (xbld134x0x1x2x3 rfl rfl rfl rfl _)) ?_
 refine sp rfl (px_build rfl (xbld134x0x1x2x3 rfl rfl rfl rfl _)) ?_
 refine sp rfl (px_build rfl (xbld134x0x1x2x3 rfl rfl rfl rfl _)) ?_
 refine sp rfl (px_build rfl (xbld134x0x1x2x3 rfl rfl rfl rfl _)) ?_
 refine sp rfl (px_build rfl (xbld134x0x1x2x3 rfl rfl rfl rfl _)) ?_
 refine sp rfl (px_build rfl (xbld134x0x1x2x3 rfl rfl rfl rfl _)) ?_
 refine sx_litG (k := 4) (e := 134) (vs := crCells tabS) rfl rfl ⟨by decide, by decide⟩ (fun w => by kernel_rfl) (fun s3 ws3 ss3 fs3 cs3 => ?_)
 have zws3 := cs3.size
 refine av rfl rfl (wl_nil (q_n (k2 _ _ ?_)))
 refine sx_sub (Sub.c 0 rfl .nil) ?_
 refine sx_retc ?_
 refine sx_ret1 Tryd.results113 rfl ?_
 exact ⟨_, rfl, fs3, cs3⟩

theorem c_l08Find {w : World} {s : ByteArray} :
  Ret Tryd.prog 94 [.string s] w fun v w' => v = .agg #[.string ((curOf s).code), .string ((curOf s).number), .int .i64 ((curOf s).places), .int .i64 ((curOf s).cash)] ∧ Chg 0 0 w w' := by
 refine sx_enter Tryd.func94 rfl Tryd.ntmps94 (nbl rfl) ?_
 refine sx_seq fun K1 k1 => sx_region ?_
 refine sx_alloc [.string (⟨#[]⟩), .string (⟨#[]⟩), .int .i64 0, .int .i64 0] rfl Tryd.zeroValue134 rfl (fun b2 w3 eb2 sb2 fb2 cb2 => ?_)
 have zw3 := cb2.size
 refine wl_nil (q_n (k1 _ _ ?_))
 refine sx_seq fun K4 k4 => ?_
 refine sx_seq fun K5 k5 => sx_region ?_
 refine sx_call rfl rfl Tryd.call113 (c_l08Table) (fun v6 w6 p6 => ?_)
 obtain ⟨sl6, rfl, osl_6, c6⟩ := p6
 have zw6 := c6.size
 refine sp rfl (px_len rfl Tryd.underlying145 osl_6.sv) ?_
 refine mv rfl rfl (wl_nil (q_n (k5 _ _ ?_)))
 refine sx_block ?_
 refine sx_loop (fun mm aa w' => ∃ (k : Nat), Agr 18 [(0, .string s), (2, .pointer (some ⟨b2, 0, none⟩)), (5, v6), (6, .int .i64 20), (7, .int .i64 ↑k)] aa ∧ Chg 0 0 w6 w' ∧ (mm = 20 - k) ∧ (k ≤ 20) ∧ (∀ i, i < k → ¬ (tabS.getD i cr0).code = s)) (20) (fun a ha => ⟨0, ha.sub (Sub.c 0 rfl (.c 2 rfl (.c 5 rfl (.c 6 rfl (.c 7 (look_int (t := 7) rfl (by first | omega | simp)) .nil))))), Chg.refl _ _ _, rfl, by omega, fun i h => by omega⟩) ?_
 rintro mm aa wl7 ⟨k, hAwl7, cwl7, hm, hk, hn⟩
 refine (show cw Tryd.prog 18 _ _ _ wl7 from ?_) aa hAwl7
 clear hAwl7
 have zwl7 := cwl7.size
 refine sx_seq fun K8 k8 => sx_region ?_
 refine sp rfl (px_lt rfl rfl) ?_
 refine wl_nil (q_n (k8 _ _ ?_))
 refine sx_seq fun K9 k9 => ?_
 refine sx_condP rfl (fun h24 => ?_) (fun h24 => ?_)
 ·
  refine sx_skip ?_
  refine q_n (k9 _ _ ?_)
  refine sx_seq fun K10 k10 => ?_
  refine sx_block ?_
  refine sx_seq fun K11 k11 => sx_region ?_
  have f12 := osl_6.ext cwl7
  refine sp rfl (px_indexK (j := k) rfl rfl (by omega) Tryd.underlying145 Tryd.sizeOf134 f12.sv (by omega)) ?_
  refine sp rfl (px_load rfl (f12.sv.loadA (cr_look (l := tabS) (k := k) (by rw [show tabS.length = 20 from rfl]; omega)) Tryd.isAgg134 Tryd.sizeOf134)) ?_
  refine sx_alloc [.string (⟨#[]⟩), .string (⟨#[]⟩), .int .i64 0, .int .i64 0] rfl Tryd.zeroValue134 rfl (fun b13 w14 eb13 sb13 fb13 cb13 => ?_)
  have zw14 := cb13.size
  refine sx_store (vs := [.string ((tabS.getD k cr0).code), .string ((tabS.getD k cr0).number), .int .i64 ((tabS.getD k cr0).places), .int .i64 ((tabS.getD k cr0).cash)]) rfl rfl fb13 rfl Tryd.sizeOf134 (nbl rfl) (one_cons rfl (o3 rfl rfl rfl)) (fun w15 sw15 fw15 cw15 => ?_)
  have zw15 := cw15.size
  have gw15 : Blk w15 b13 [.string ((tabS.getD k cr0).code), .string ((tabS.getD k cr0).number), .int .i64 ((tabS.getD k cr0).places), .int .i64 ((tabS.getD k cr0).cash)] 134 := fw15
  refine wl_nil (q_n (k11 _ _ ?_))
  refine sx_seq fun K16 k16 => sx_region ?_
  refine sp rfl (px_field rfl xfld134x0) ?_
  refine sp rfl (px_load rfl (gw15.load1 rfl Tryd.isAgg9)) ?_
  refine mv rfl rfl (sp rfl (px_eqS rfl rfl) ?_)
  refine wl_nil (q_n (k16 _ _ ?_))
  refine sx_condP rfl (fun h25 => ?_) (fun h25 => ?_)
  ·
   refine sx_seq fun K17 k17 => sx_region ?_
   refine sp rfl (px_load rfl (gw15.loadA (vs := [.string ((tabS.getD k cr0).code), .string ((tabS.getD k cr0).number), .int .i64 ((tabS.getD k cr0).places), .int .i64 ((tabS.getD k cr0).cash)]) (look_lit rfl) Tryd.isAgg134 Tryd.sizeOf134)) ?_
   have f20 := (fb2.ext c6).ext cwl7
   have f21 := f20.ext cb13
   have f22 := f21.chg cw15 (by omega)
   refine sx_store (vs := [.string ((tabS.getD k cr0).code), .string ((tabS.getD k cr0).number), .int .i64 ((tabS.getD k cr0).places), .int .i64 ((tabS.getD k cr0).cash)]) rfl rfl f22 rfl Tryd.sizeOf134 (nbl rfl) (one_cons rfl (o3 rfl rfl rfl)) (fun w18 sw18 fw18 cw18 => ?_)
   have zw18 := cw18.size
   have gw18 : Blk w18 b2 [.string ((tabS.getD k cr0).code), .string ((tabS.getD k cr0).number), .int .i64 ((tabS.getD k cr0).places), .int .i64 ((tabS.getD k cr0).cash)] 134 := fw18
   refine wl_nil (q_n (k17 _ _ ?_))
   refine sx_retc ?_
   refine q_br (q_r (q_r (q_br (q_r (sx_ret1 Tryd.results94 ⟨_, rfl, gw18.loadA (vs := [.string ((tabS.getD k cr0).code), .string ((tabS.getD k cr0).number), .int .i64 ((tabS.getD k cr0).places), .int .i64 ((tabS.getD k cr0).cash)]) (look_lit rfl) Tryd.isAgg134 Tryd.sizeOf134⟩ ?_)))))
   have e := curOf_someS (by rw [show tabS.length = 20 from rfl]; omega) hn h25
   rw [e]
   have q23 := Chg.step (l := 0) (h := 0) (Chg.zero (l := 0) (h := 0) (((cb2.t c6).t cwl7).t cb13)) cw15 (by omega)
   have q24 := Chg.step (l := 0) (h := 0) q23 cw18 (by omega)
   exact ⟨rfl, q24⟩
  refine sx_skip ?_
  refine q_bn (q_n (k10 _ _ ?_))
  refine sx_region ?_
  refine sp rfl (px_add rfl rfl (by omega)) ?_
  refine mv rfl rfl (wl_nil ?_)
  have q25 := Chg.step (l := 0) (h := 0) (Chg.zero (l := 0) (h := 0) (cwl7.t cb13)) cw15 (by omega)
  exact fun a ha => ⟨_, by omega, (k + 1), ha.sub (Sub.c 0 rfl (.c 2 rfl (.c 5 rfl (.c 6 rfl (.c 7 (look_int (t := 7) rfl (by first | omega | simp)) .nil))))), q25, rfl, by omega, upto_succ hn h25⟩
 refine sx_exit ?_
 refine q_e (q_e (q_bx (q_n (k4 _ _ ?_))))
 refine sx_seq fun K26 k26 => sx_region ?_
 refine sp rfl (px_build rfl (xbld134x  _)) ?_
 have f29 := (fb2.ext c6).ext cwl7
 refine sx_store (vs := [.string (⟨#[]⟩), .string (⟨#[]⟩), .int .i64 0, .int .i64 0]) rfl rfl f29 rfl Tryd.sizeOf134 (nbl rfl) (one_cons rfl (o3 rfl rfl rfl)) (fun w27 sw27 fw27 cw27 => ?_)
 have zw27 := cw27.size
 have gw27 : Blk w27 b2 [.string (⟨#[]⟩), .string (⟨#[]⟩), .int .i64 0, .int .i64 0] 134 := fw27
 refine wl_nil (q_n (k26 _ _ ?_))
 refine sx_retc ?_
 refine sx_ret1 Tryd.results94 ⟨_, rfl, gw27.loadA (vs := [.string (⟨#[]⟩), .string (⟨#[]⟩), .int .i64 0, .int .i64 0]) (look_lit rfl) Tryd.isAgg134 Tryd.sizeOf134⟩ ?_
 have e := curOf_noneS (s := s) (fun i hi => hn i (by rw [show tabS.length = 20 from rfl] at hi; omega))
 rw [e]
 have q30 := Chg.step (l := 0) (h := 0) (Chg.zero (l := 0) (h := 0) ((cb2.t c6).t cwl7)) cw27 (by omega)
 exact ⟨rfl, q30⟩

theorem c_sCurKnown {w : World} {s : ByteArray} :
  Ret Tryd.prog 65 [.string s] w fun v w' => v = .bool (decide (Known s)) ∧ Chg 0 0 w w' := by
 refine sx_enter Tryd.func65 rfl Tryd.ntmps65 (nbl rfl) ?_
 refine sx_seq fun K1 k1 => sx_region ?_
 refine av rfl rfl (wl_nil (q_n (k1 _ _ ?_)))
 refine sx_seq fun K2 k2 => sx_region ?_
 refine mv rfl rfl (sx_call rfl rfl Tryd.call94 (c_l08Find) (fun v3 w3 p3 => ?_))
 obtain ⟨rfl, c3⟩ := p3
 have zw3 := c3.size
 refine sp rfl (px_fieldv rfl (xfv134x0 _)) ?_
 refine sp rfl (px_neS rfl rfl) ?_
 refine av rfl rfl (wl_nil (q_n (k2 _ _ ?_)))
 refine sx_retc ?_
 refine sx_ret1 Tryd.results65 rfl ?_
 exact ⟨bIff (known_iff s).symm, c3⟩

theorem c_l01In {w : World} {n : Int} {lo : Int} {hi : Int} :
  Ret Tryd.prog 96 [.int .i64 n, .int .i64 lo, .int .i64 hi] w fun v w' => v = .bool (decide (lo ≤ n ∧ n ≤ hi)) ∧ Chg 0 0 w w' := by
 refine sx_enter Tryd.func96 rfl Tryd.ntmps96 (nbl rfl) ?_
 refine sx_seq fun K1 k1 => sx_region ?_
 refine av rfl rfl (wl_nil (q_n (k1 _ _ ?_)))
 refine sx_seq fun K2 k2 => sx_region ?_
 refine mv rfl rfl (mv rfl rfl (sp rfl (px_ge rfl rfl) ?_))
 refine mv rfl rfl ?_
 refine sx_tmpP (t := 10) rfl (fun h5 => ?_) (fun h5 => ?_)
 ·
  refine sx_guardT rfl rfl rfl ?_
  refine mv rfl rfl ?_
  refine sx_guardT rfl rfl rfl ?_
  refine mv rfl rfl ?_
  refine sx_guardT rfl rfl rfl ?_
  refine sp rfl (px_le rfl rfl) ?_
  refine sp rfl (px_pick rfl rfl) ?_
  refine av rfl rfl (wl_nil (q_n (k2 _ _ ?_)))
  refine sx_retc ?_
  refine sx_ret1 Tryd.results96 rfl ?_
  exact ⟨(by first | exact bIff (by omega) | exact bFalse (by omega) | exact bTrue (by omega)), (Chg.refl 0 0 _)⟩
 refine sx_guardF rfl rfl rfl rfl rfl rfl ?_
 refine sx_guardF rfl rfl rfl rfl rfl rfl ?_
 refine sx_guardF rfl rfl rfl rfl rfl rfl ?_
 refine sp rfl (px_pick rfl rfl) ?_
 refine av rfl rfl (wl_nil (q_n (k2 _ _ ?_)))
 refine sx_retc ?_
 refine sx_ret1 Tryd.results96 rfl ?_
 exact ⟨(by first | exact bIff (by omega) | exact bFalse (by omega) | exact bTrue (by omega)), (Chg.refl 0 0 _)⟩

theorem c_sNatOk {w : World} {va : Value} {lva uva : Nat} {zs : List Int} (hva : Sl w lva uva va (zs)) (h63 : zs.length ≤ 4611686018427387904) :
  Ret Tryd.prog 114 [va] w fun v w' => v = .bool (decide (NOk zs)) ∧ Chg 0 0 w w' := by
 have hva0 := hva.fit
 refine sx_enter Tryd.func114 rfl Tryd.ntmps114 (nbl rfl) ?_
 refine sx_seq fun K1 k1 => sx_region ?_
 refine av rfl rfl (wl_nil (q_n (k1 _ _ ?_)))
 refine sx_seq fun K2 k2 => ?_
 refine sx_seq fun K3 k3 => sx_region ?_
 refine mv rfl rfl (sp rfl (px_len rfl Tryd.underlying25 hva0) ?_)
 refine mv rfl rfl (wl_nil (q_n (k3 _ _ ?_)))
 refine sx_block ?_
 refine sx_loop (fun mm aa w' => ∃ (k : Nat), Agr 32 [(0, va), (5, va), (6, .int .i64 ↑zs.length), (7, .int .i64 ↑k)] aa ∧ Chg 0 0 w w' ∧ (mm = zs.length - k) ∧ (k ≤ zs.length) ∧ (∀ i, i < k → 0 ≤ zs.getD i 0 ∧ zs.getD i 0 < 1000000000)) (_) (fun a ha => ⟨0, ha.sub (Sub.c 0 rfl (.c 5 rfl (.c 6 (look_int (t := 6) rfl (by first | omega | simp)) (.c 7 (look_int (t := 7) rfl (by first | omega | simp)) .nil)))), Chg.refl _ _ _, rfl, by omega, fun i h => by omega⟩) ?_
 rintro mm aa wl4 ⟨k, hAwl4, cwl4, hm, hk, hall⟩
 refine (show cw Tryd.prog 32 _ _ _ wl4 from ?_) aa hAwl4
 clear hAwl4
 have zwl4 := cwl4.size
 refine sx_seq fun K5 k5 => sx_region ?_
 refine sp rfl (px_lt rfl rfl) ?_
 refine wl_nil (q_n (k5 _ _ ?_))
 refine sx_seq fun K6 k6 => ?_
 refine sx_condP rfl (fun h7 => ?_) (fun h7 => ?_)
 ·
  refine sx_skip ?_
  refine q_n (k6 _ _ ?_)
  refine sx_seq fun K7 k7 => ?_
  refine sx_block ?_
  refine sx_seq fun K8 k8 => sx_region ?_
  have f9 := hva0.ext cwl4
  refine sp rfl (px_index1 (j := k) rfl rfl (by omega) Tryd.underlying25 Tryd.sizeOf3 f9 (by omega)) ?_
  refine sp rfl (px_load rfl (f9.load1 (at_int (by omega)) Tryd.isAgg3)) ?_
  refine av rfl rfl (wl_nil (q_n (k8 _ _ ?_)))
  refine sx_seq fun K10 k10 => sx_region ?_
  refine mv rfl rfl (sx_call rfl rfl Tryd.call96 (c_l01In) (fun v11 w11 p11 => ?_))
  obtain ⟨rfl, c11⟩ := p11
  have zw11 := c11.size
  refine sp rfl (px_notP rfl) ?_
  refine wl_nil (q_n (k10 _ _ ?_))
  refine sx_condP rfl (fun h8 => ?_) (fun h8 => ?_)
  ·
   refine sx_seq fun K12 k12 => sx_region ?_
   refine av rfl rfl (wl_nil (q_n (k12 _ _ ?_)))
   refine sx_retc ?_
   refine q_br (q_r (q_r (q_br (q_r (sx_ret1 Tryd.results114 rfl ?_)))))
   exact ⟨bFalse (fun h => by have h1 := h.1.getD k; omega), (cwl4.t c11)⟩
  refine sx_skip ?_
  refine q_bn (q_n (k7 _ _ ?_))
  refine sx_region ?_
  refine sp rfl (px_add rfl rfl (by omega)) ?_
  refine mv rfl rfl (wl_nil ?_)
  exact fun a ha => ⟨_, by omega, (k + 1), ha.sub (Sub.c 0 rfl (.c 5 rfl (.c 6 rfl (.c 7 (look_int (t := 7) rfl (by first | omega | simp)) .nil)))), (cwl4.t c11), rfl, by omega, lm_succ hall (by omega)⟩
 refine sx_exit ?_
 refine q_e (q_e (q_bx (q_n (k2 _ _ ?_))))
 refine sx_seq fun K13 k13 => ?_
 have ek : k = zs.length := by omega
 have hz : Lm zs := lm_mem (by rw [← ek]; exact hall)
 refine sx_region ?_
 refine mv rfl rfl ?_
 have f14 := hva0.ext cwl4
 refine sp rfl (px_len rfl Tryd.underlying25 f14) ?_
 refine sp rfl (px_le rfl rfl) ?_
 refine mv rfl rfl ?_
 refine sx_tmpP (t := 18) rfl (fun h12 => ?_) (fun h12 => ?_)
 ·
  refine sx_guardT rfl rfl rfl ?_
  refine mv rfl rfl ?_
  refine sx_guardT rfl rfl rfl ?_
  refine sp rfl (px_len rfl Tryd.underlying25 f14) ?_
  refine sx_guardT rfl rfl rfl ?_
  refine sp rfl (px_eq rfl rfl) ?_
  refine sx_guardT rfl rfl rfl ?_
  refine mv rfl rfl ?_
  refine sx_tmpP (t := 22) rfl (fun h12x1 => ?_) (fun h12x1 => ?_)
  ·
   refine sx_guardF rfl rfl rfl rfl rfl rfl ?_
   refine sx_guardF rfl rfl rfl rfl rfl rfl ?_
   refine sx_guardF rfl rfl rfl rfl rfl rfl ?_
   refine sx_guardF rfl rfl rfl rfl rfl rfl ?_
   refine sx_guardF rfl rfl rfl rfl rfl rfl ?_
   refine sx_guardF rfl rfl rfl rfl rfl rfl ?_
   refine sx_guardF rfl rfl rfl rfl rfl rfl ?_
   refine sx_guardT rfl rfl rfl ?_
   refine sp rfl (px_pick rfl rfl) ?_
   refine sp rfl (px_pick rfl rfl) ?_
   refine av rfl rfl (wl_nil (q_n (k13 _ _ ?_)))
   refine sx_sub (Sub.c 2 rfl .nil) ?_
   refine sx_retc ?_
   refine sx_ret1 Tryd.results114 rfl ?_
   exact ⟨(by first | exact bFalse (fun h => by have h1 := h.2.1; omega) | exact bTrue (NOk_mk hz (by omega) (.inl (by omega))) | exact bIff (NOk_iff hz (by omega) (by omega))), cwl4⟩
  refine sx_guardT rfl rfl rfl ?_
  refine mv rfl rfl ?_
  refine sx_guardT rfl rfl rfl ?_
  refine mv rfl rfl ?_
  refine sx_guardT rfl rfl rfl ?_
  refine sp rfl (px_len rfl Tryd.underlying25 f14) ?_
  refine sx_guardT rfl rfl rfl ?_
  refine sp rfl (px_sub rfl rfl (by omega)) ?_
  refine sx_guardT rfl rfl rfl ?_
  refine sp rfl (px_index1 (j := (zs.length - 1)) rfl rfl (by omega) Tryd.underlying25 Tryd.sizeOf3 f14 (by omega)) ?_
  refine sx_guardT rfl rfl rfl ?_
  refine sp rfl (px_load rfl (f14.load1 (at_int (by omega)) Tryd.isAgg3)) ?_
  refine sx_guardT rfl rfl rfl ?_
  refine sp rfl (px_ne rfl rfl) ?_
  refine sx_guardT rfl rfl rfl ?_
  refine sp rfl (px_pick rfl rfl) ?_
  refine sp rfl (px_pick rfl rfl) ?_
  refine av rfl rfl (wl_nil (q_n (k13 _ _ ?_)))
  refine sx_sub (Sub.c 2 rfl .nil) ?_
  refine sx_retc ?_
  refine sx_ret1 Tryd.results114 rfl ?_
  exact ⟨(by first | exact bFalse (fun h => by have h1 := h.2.1; omega) | exact bTrue (NOk_mk hz (by omega) (.inl (by omega))) | exact bIff (NOk_iff hz (by omega) (by omega))), cwl4⟩
 refine sx_guardF rfl rfl rfl rfl rfl rfl ?_
 refine sx_guardF rfl rfl rfl rfl rfl rfl ?_
 refine sx_guardF rfl rfl rfl rfl rfl rfl ?_
 refine sx_guardF rfl rfl rfl rfl rfl rfl ?_
 refine sx_guardFU rfl rfl rfl rfl rfl ?_
 refine sx_guardFU rfl rfl rfl rfl rfl ?_
 refine sx_guardFU rfl rfl rfl rfl rfl ?_
 refine sx_guardFU rfl rfl rfl rfl rfl ?_
 refine sx_guardFU rfl rfl rfl rfl rfl ?_
 refine sx_guardFU rfl rfl rfl rfl rfl ?_
 refine sx_guardFU rfl rfl rfl rfl rfl ?_
 refine sx_guardF rfl rfl rfl rfl rfl rfl ?_
 refine sp rfl (px_pick rfl rfl) ?_
 refine av rfl rfl (wl_nil (q_n (k13 _ _ ?_)))
 refine sx_sub (Sub.c 2 rfl .nil) ?_
 refine sx_retc ?_
 refine sx_ret1 Tryd.results114 rfl ?_
 exact ⟨(by first | exact bFalse (fun h => by have h1 := h.2.1; omega) | exact bTrue (NOk_mk hz (by omega) (.inl (by omega))) | exact bIff (NOk_iff hz (by omega) (by omega))), cwl4⟩

theorem c_sIntOk {w : World} {n1 : Bool} {v1 : Value} {lv1 uv1 : Nat} {z1 : List Int} (hv1 : Sl w lv1 uv1 v1 (z1)) (h63 : z1.length ≤ 4611686018427387904) :
  Ret Tryd.prog 95 [.agg #[.bool n1, v1]] w fun v w' => v = .bool (decide (IOk n1 z1)) ∧ Chg 0 0 w w' := by
 have hv10 := hv1.fit
 refine sx_enter Tryd.func95 rfl Tryd.ntmps95 (nbl rfl) ?_
 refine sx_seq fun K1 k1 => sx_region ?_
 refine sx_box [.bool n1, v1] rfl rfl rfl (fun b2 w3 eb2 sb2 fb2 cb2 => ?_)
 have zw3 := cb2.size
 refine av rfl rfl (wl_nil (q_n (k1 _ _ ?_)))
 refine sx_seq fun K4 k4 => sx_region ?_
 refine sp rfl (px_field rfl xfld40x1) ?_
 refine sp rfl (px_load rfl (fb2.load1 rfl Tryd.isAgg25)) ?_
 have f5 := hv10.ext cb2
 refine sx_call rfl rfl Tryd.call114 (c_sNatOk f5 (by omega)) (fun v6 w6 p6 => ?_)
 obtain ⟨rfl, c6⟩ := p6
 have zw6 := c6.size
 refine mv rfl rfl ?_
 refine sx_tmpP (t := 6) rfl (fun h6 => ?_) (fun h6 => ?_)
 ·
  refine sx_guardT rfl rfl rfl ?_
  refine sp rfl (px_field rfl xfld40x0) ?_
  refine sx_guardT rfl rfl rfl ?_
  have f7 := fb2.ext c6
  refine sp rfl (px_load rfl (f7.load1 rfl Tryd.isAgg4)) ?_
  refine sx_guardT rfl rfl rfl ?_
  refine sp rfl (px_not rfl) ?_
  refine sx_guardT rfl rfl rfl ?_
  refine mv rfl rfl ?_
  refine sx_tmpB (t := 10) rfl (fun h6x1 => ?_) (fun h6x1 => ?_)
  ·
   refine sx_guardF rfl rfl rfl rfl rfl rfl ?_
   refine sx_guardF rfl rfl rfl rfl rfl rfl ?_
   refine sx_guardF rfl rfl rfl rfl rfl rfl ?_
   refine sx_guardF rfl rfl rfl rfl rfl rfl ?_
   refine sx_guardT rfl rfl rfl ?_
   refine sp rfl (px_pick rfl rfl) ?_
   refine sp rfl (px_pick rfl rfl) ?_
   refine av rfl rfl (wl_nil (q_n (k4 _ _ ?_)))
   refine sx_sub (Sub.c 2 rfl .nil) ?_
   refine sx_retc ?_
   refine sx_ret1 Tryd.results95 rfl ?_
   exact ⟨(by first | exact bTrue (by grind [IOk]) | exact bFalse (by grind [IOk]) | exact bIff (by grind [IOk])), (cb2.t c6)⟩
  refine sx_guardT rfl rfl rfl ?_
  refine sp rfl (px_field rfl xfld40x1) ?_
  refine sx_guardT rfl rfl rfl ?_
  refine sp rfl (px_load rfl (f7.load1 rfl Tryd.isAgg25)) ?_
  refine sx_guardT rfl rfl rfl ?_
  have f8 := f5.ext c6
  refine sp rfl (px_len rfl Tryd.underlying25 f8) ?_
  refine sx_guardT rfl rfl rfl ?_
  refine sp rfl (px_gt rfl rfl) ?_
  refine sx_guardT rfl rfl rfl ?_
  refine sp rfl (px_pick rfl rfl) ?_
  refine sp rfl (px_pick rfl rfl) ?_
  refine av rfl rfl (wl_nil (q_n (k4 _ _ ?_)))
  refine sx_sub (Sub.c 2 rfl .nil) ?_
  refine sx_retc ?_
  refine sx_ret1 Tryd.results95 rfl ?_
  exact ⟨(by first | exact bTrue (by grind [IOk]) | exact bFalse (by grind [IOk]) | exact bIff (by grind [IOk])), (cb2.t c6)⟩
 refine sx_guardF rfl rfl rfl rfl rfl rfl ?_
 refine sx_guardF rfl rfl rfl rfl rfl rfl ?_
 refine sx_guardF rfl rfl rfl rfl rfl rfl ?_
 refine sx_guardF rfl rfl rfl rfl rfl rfl ?_
 refine sx_guardFU rfl rfl rfl rfl rfl ?_
 refine sx_guardFU rfl rfl rfl rfl rfl ?_
 refine sx_guardFU rfl rfl rfl rfl rfl ?_
 refine sx_guardFU rfl rfl rfl rfl rfl ?_
 refine sx_guardF rfl rfl rfl rfl rfl rfl ?_
 refine sp rfl (px_pick rfl rfl) ?_
 refine av rfl rfl (wl_nil (q_n (k4 _ _ ?_)))
 refine sx_sub (Sub.c 2 rfl .nil) ?_
 refine sx_retc ?_
 refine sx_ret1 Tryd.results95 rfl ?_
 exact ⟨(by first | exact bTrue (by grind [IOk]) | exact bFalse (by grind [IOk]) | exact bIff (by grind [IOk])), (cb2.t c6)⟩

theorem c_sDecOk {w : World} {n1 : Bool} {v1 : Value} {lv1 uv1 : Nat} {z1 : List Int} {p1 : Int} (hv1 : Sl w lv1 uv1 v1 (z1)) (h63 : z1.length ≤ 4611686018427387904) :
  Ret Tryd.prog 66 [.agg #[.bool n1, v1, .int .i64 p1]] w fun v w' => v = .bool (decide (DOk n1 z1 p1)) ∧ Chg 0 0 w w' := by
 have hv10 := hv1.fit
 refine sx_enter Tryd.func66 rfl Tryd.ntmps66 (nbl rfl) ?_
 refine sx_seq fun K1 k1 => sx_region ?_
 refine sx_box [.bool n1, v1, .int .i64 p1] rfl rfl rfl (fun b2 w3 eb2 sb2 fb2 cb2 => ?_)
 have zw3 := cb2.size
 refine av rfl rfl (wl_nil (q_n (k1 _ _ ?_)))
 refine sx_seq fun K4 k4 => sx_region ?_
 refine sp rfl (px_field rfl xfld42x0) ?_
 refine sp rfl (px_load rfl (fb2.loadA (vs := [.bool n1, v1]) (look_lit rfl) Tryd.isAgg40 Tryd.sizeOf40)) ?_
 have f5 := hv10.ext cb2
 refine sx_call rfl rfl Tryd.call95 (c_sIntOk f5 (by omega)) (fun v6 w6 p6 => ?_)
 obtain ⟨rfl, c6⟩ := p6
 have zw6 := c6.size
 refine mv rfl rfl ?_
 refine sx_tmpP (t := 6) rfl (fun h7 => ?_) (fun h7 => ?_)
 ·
  refine sx_guardT rfl rfl rfl ?_
  refine sp rfl (px_field rfl xfld42x0) ?_
  refine sx_guardT rfl rfl rfl ?_
  refine sp rfl (px_field rfl xfld40x1) ?_
  refine sx_guardT rfl rfl rfl ?_
  have f7 := fb2.ext c6
  refine sp rfl (px_load rfl (f7.load1 rfl Tryd.isAgg25)) ?_
  refine sx_guardT rfl rfl rfl ?_
  have f8 := f5.ext c6
  refine sp rfl (px_len rfl Tryd.underlying25 f8) ?_
  refine sx_guardT rfl rfl rfl ?_
  refine sp rfl (px_le rfl rfl) ?_
  refine sp rfl (px_pick rfl rfl) ?_
  refine mv rfl rfl ?_
  refine sx_tmpP (t := 13) rfl (fun h7x1 => ?_) (fun h7x1 => ?_)
  ·
   refine sx_guardT rfl rfl rfl ?_
   refine sp rfl (px_field rfl xfld42x1) ?_
   refine sx_guardT rfl rfl rfl ?_
   refine sp rfl (px_load rfl (f7.load1 rfl Tryd.isAgg3)) ?_
   refine sx_guardT rfl rfl rfl ?_
   refine sx_call rfl rfl Tryd.call96 (c_l01In) (fun v9 w9 p9 => ?_)
   obtain ⟨rfl, c9⟩ := p9
   have zw9 := c9.size
   refine sp rfl (px_pick rfl rfl) ?_
   refine av rfl rfl (wl_nil (q_n (k4 _ _ ?_)))
   refine sx_sub (Sub.c 2 rfl .nil) ?_
   refine sx_retc ?_
   refine sx_ret1 Tryd.results66 rfl ?_
   exact ⟨(by first | exact bTrue (by grind [DOk]) | exact bFalse (by grind [DOk]) | exact bIff (by grind [DOk])), ((cb2.t c6).t c9)⟩
  refine sx_guardF rfl rfl rfl rfl rfl rfl ?_
  refine sx_guardF rfl rfl rfl rfl rfl rfl ?_
  refine sx_guardF rfl rfl rfl rfl rfl rfl ?_
  refine sp rfl (px_pick rfl rfl) ?_
  refine av rfl rfl (wl_nil (q_n (k4 _ _ ?_)))
  refine sx_sub (Sub.c 2 rfl .nil) ?_
  refine sx_retc ?_
  refine sx_ret1 Tryd.results66 rfl ?_
  exact ⟨(by first | exact bTrue (by grind [DOk]) | exact bFalse (by grind [DOk]) | exact bIff (by grind [DOk])), (cb2.t c6)⟩
 refine sx_guardF rfl rfl rfl rfl rfl rfl ?_
 refine sx_guardF rfl rfl rfl rfl rfl rfl ?_
 refine sx_guardF rfl rfl rfl rfl rfl rfl ?_
 refine sx_guardF rfl rfl rfl rfl rfl rfl ?_
 refine sx_guardF rfl rfl rfl rfl rfl rfl ?_
 refine sp rfl (px_pick rfl rfl) ?_
 refine mv rfl rfl ?_
 refine sx_guardF rfl rfl rfl rfl rfl rfl ?_
 refine sx_guardF rfl rfl rfl rfl rfl rfl ?_
 refine sx_guardF rfl rfl rfl rfl rfl rfl ?_
 refine sp rfl (px_pick rfl rfl) ?_
 refine av rfl rfl (wl_nil (q_n (k4 _ _ ?_)))
 refine sx_sub (Sub.c 2 rfl .nil) ?_
 refine sx_retc ?_
 refine sx_ret1 Tryd.results66 rfl ?_
 exact ⟨(by first | exact bTrue (by grind [DOk]) | exact bFalse (by grind [DOk]) | exact bIff (by grind [DOk])), (cb2.t c6)⟩

theorem c_l02Cmp {w : World} {va : Value} {lva uva : Nat} {zs : List Int} {vb : Value} {lvb uvb : Nat} {ys : List Int} (hva : Sl w lva uva va (zs)) (hvb : Sl w lvb uvb vb (ys)) (h63 : zs.length ≤ 4611686018427387904 ∧ ys.length ≤ 4611686018427387904) :
  Ret Tryd.prog 115 [va, vb] w fun v w' => v = .int .i64 (cmpL zs ys) ∧ Chg 0 0 w w' := by
 have hva0 := hva.fit
 have hvb0 := hvb.fit
 have zs0 : zs.drop zs.length = [] := by simp
 have ys0 : ys.drop ys.length = [] := by simp
 refine sx_enter Tryd.func115 rfl Tryd.ntmps115 (nbl rfl) ?_
 refine sx_seq fun K1 k1 => sx_region ?_
 refine av rfl rfl (wl_nil (q_n (k1 _ _ ?_)))
 refine sx_seq fun K2 k2 => ?_
 refine sx_seq fun K3 k3 => sx_region ?_
 refine mv rfl rfl (sp rfl (px_len rfl Tryd.underlying25 hva0) ?_)
 refine mv rfl rfl (sp rfl (px_len rfl Tryd.underlying25 hvb0) ?_)
 refine sp rfl (px_ne rfl rfl) ?_
 refine wl_nil (q_n (k3 _ _ ?_))
 refine sx_condP rfl (fun h54 => ?_) (fun h54 => ?_)
 ·
  refine sx_seq fun K4 k4 => ?_
  refine sx_seq fun K5 k5 => sx_region ?_
  refine mv rfl rfl (sp rfl (px_len rfl Tryd.underlying25 hva0) ?_)
  refine mv rfl rfl (sp rfl (px_len rfl Tryd.underlying25 hvb0) ?_)
  refine sp rfl (px_lt rfl rfl) ?_
  refine wl_nil (q_n (k5 _ _ ?_))
  refine sx_condP rfl (fun h55 => ?_) (fun h55 => ?_)
  ·
   refine sx_seq fun K6 k6 => sx_region ?_
   refine av rfl rfl (wl_nil (q_n (k6 _ _ ?_)))
   refine sx_retc ?_
   refine q_r (q_r (sx_ret1 Tryd.results115 rfl ?_))
   exact ⟨iEq (cmpL_short (by omega)).symm, (Chg.refl 0 0 _)⟩
  refine sx_skip ?_
  refine q_n (k4 _ _ ?_)
  refine sx_seq fun K7 k7 => sx_region ?_
  refine av rfl rfl (wl_nil (q_n (k7 _ _ ?_)))
  refine sx_retc ?_
  refine q_r (sx_ret1 Tryd.results115 rfl ?_)
  exact ⟨iEq (cmpL_long (by omega)).symm, (Chg.refl 0 0 _)⟩
 refine sx_skip ?_
 refine q_n (k2 _ _ ?_)
 refine sx_seq fun K8 k8 => ?_
 refine sx_seq fun K9 k9 => sx_region ?_
 refine mv rfl rfl (sp rfl (px_len rfl Tryd.underlying25 hva0) ?_)
 refine sp rfl (px_sub rfl rfl (by omega)) ?_
 refine av rfl rfl (wl_nil (q_n (k9 _ _ ?_)))
 refine sx_block ?_
 have e00 : zs.length = ys.length := by omega
 have he0 : zs.drop zs.length = ys.drop zs.length := by rw [zs0, e00, ys0]
 refine sx_loop (fun mm aa w' => ∃ (k : Nat), Agr 41 [(0, va), (1, vb), (5, .int .i64 (↑k - 1))] aa ∧ Chg 0 0 w w' ∧ (mm = k) ∧ (k ≤ zs.length) ∧ (zs.drop k = ys.drop k)) (_) (fun a ha => ⟨zs.length, ha.sub (Sub.c 0 rfl (.c 1 rfl (.c 5 (look_int (t := 5) rfl (by first | omega | simp)) .nil))), Chg.refl _ _ _, rfl, by omega, he0⟩) ?_
 rintro mm aa wl10 ⟨k, hAwl10, cwl10, hm, hk, he⟩
 refine (show cw Tryd.prog 41 _ _ _ wl10 from ?_) aa hAwl10
 clear hAwl10
 have zwl10 := cwl10.size
 have hl : zs.length = ys.length := by omega
 refine sx_seq fun K11 k11 => ?_
 refine sx_seq fun K12 k12 => sx_region ?_
 refine mv rfl rfl (sp rfl (px_ge rfl rfl) ?_)
 refine wl_nil (q_n (k12 _ _ ?_))
 refine sx_condP rfl (fun h60 => ?_) (fun h60 => ?_)
 ·
  refine sx_skip ?_
  refine q_n (k11 _ _ ?_)
  refine sx_seq fun K13 k13 => ?_
  refine sx_block ?_
  refine sx_seq fun K14 k14 => ?_
  refine sx_seq fun K15 k15 => ?_
  have f16 := hva0.ext cwl10
  have f17 := hvb0.ext cwl10
  refine dx_region (fun w' => Chg 0 0 wl10 w') (by kernel_rfl) (Chg.zero (Chg.drew _)) ?_
  have d18 := Chg.drew wl10
  have s18 : Chg 0 0 wl10 (World.drew wl10) := Chg.zero (Chg.drew _)
  have y18 : (World.drew wl10).heap.size = wl10.heap.size := rfl
  generalize World.drew wl10 = w18 at *
  have zw18 := d18.size
  refine dt 0 rfl rfl rfl rfl s18 (fun _ hS => px_move rfl) ?_
  refine dt 1 rfl rfl rfl rfl s18 (fun _ hS => px_move rfl) ?_
  refine dt 2 rfl rfl rfl rfl s18 (fun _ hS => px_index1 (j := (k - 1)) rfl rfl (by omega) Tryd.underlying25 Tryd.sizeOf3 ((f16).chg hS (by omega)) (by omega)) ?_
  refine dt 3 rfl rfl rfl rfl s18 (fun _ hS => px_load rfl (((f16).chg hS (by omega)).load1 (at_int (by omega)) Tryd.isAgg3)) ?_
  refine dt 4 rfl rfl rfl rfl s18 (fun _ hS => px_move rfl) ?_
  refine dt 5 rfl rfl rfl rfl s18 (fun _ hS => px_move rfl) ?_
  refine dt 6 rfl rfl rfl rfl s18 (fun _ hS => px_index1 (j := (k - 1)) rfl rfl (by omega) Tryd.underlying25 Tryd.sizeOf3 ((f17).chg hS (by omega)) (by omega)) ?_
  refine dt 7 rfl rfl rfl rfl s18 (fun _ hS => px_load rfl (((f17).chg hS (by omega)).load1 (at_int (by omega)) Tryd.isAgg3)) ?_
  refine dt 8 rfl rfl rfl rfl s18 (fun _ hS => px_lt rfl rfl) ?_
  refine dx_done (by kernel_rfl) ?_
  refine q_n (k15 _ _ ?_)
  refine sx_condP rfl (fun h61 => ?_) (fun h61 => ?_)
  ·
   refine sx_seq fun K19 k19 => sx_region ?_
   refine av rfl rfl (wl_nil (q_n (k19 _ _ ?_)))
   refine sx_sub (Sub.c 0 rfl (.c 1 rfl (.c 4 rfl (.c 5 rfl .nil)))) ?_
   refine sx_retc ?_
   refine q_r (q_br (q_r (q_r (q_br (q_r (sx_ret1 Tryd.results115 rfl ?_))))))
   have hlt := cmpL_lt hl (k := k - 1) (by omega) (by rw [Nat.sub_add_cancel (by omega)]; exact he) (h61)
   exact ⟨iEq hlt.symm, (cwl10.t d18)⟩
  refine sx_skip ?_
  refine q_n (k14 _ _ ?_)
  refine sx_seq fun K20 k20 => ?_
  have f21 := f16.ext d18
  have f22 := f17.ext d18
  refine dx_region (fun w' => Chg 0 0 w18 w') (by kernel_rfl) (Chg.zero (Chg.drew _)) ?_
  have d23 := Chg.drew w18
  have s23 : Chg 0 0 w18 (World.drew w18) := Chg.zero (Chg.drew _)
  have y23 : (World.drew w18).heap.size = w18.heap.size := rfl
  generalize World.drew w18 = w23 at *
  have zw23 := d23.size
  refine dt 0 rfl rfl rfl rfl s23 (fun _ hS => px_move rfl) ?_
  refine dt 1 rfl rfl rfl rfl s23 (fun _ hS => px_move rfl) ?_
  refine dt 2 rfl rfl rfl rfl s23 (fun _ hS => px_index1 (j := (k - 1)) rfl rfl (by omega) Tryd.underlying25 Tryd.sizeOf3 ((f21).chg hS (by omega)) (by omega)) ?_
  refine dt 3 rfl rfl rfl rfl s23 (fun _ hS => px_load rfl (((f21).chg hS (by omega)).load1 (at_int (by omega)) Tryd.isAgg3)) ?_
  refine dt 4 rfl rfl rfl rfl s23 (fun _ hS => px_move rfl) ?_
  refine dt 5 rfl rfl rfl rfl s23 (fun _ hS => px_move rfl) ?_
  refine dt 6 rfl rfl rfl rfl s23 (fun _ hS => px_index1 (j := (k - 1)) rfl rfl (by omega) Tryd.underlying25 Tryd.sizeOf3 ((f22).chg hS (by omega)) (by omega)) ?_
  refine dt 7 rfl rfl rfl rfl s23 (fun _ hS => px_load rfl (((f22).chg hS (by omega)).load1 (at_int (by omega)) Tryd.isAgg3)) ?_
  refine dt 8 rfl rfl rfl rfl s23 (fun _ hS => px_gt rfl rfl) ?_
  refine dx_done (by kernel_rfl) ?_
  refine q_n (k20 _ _ ?_)
  refine sx_sub (Sub.c 0 rfl (.c 1 rfl (.c 5 rfl (.c 40 rfl .nil)))) ?_
  refine sx_condP rfl (fun h64 => ?_) (fun h64 => ?_)
  ·
   refine sx_seq fun K24 k24 => sx_region ?_
   refine av rfl rfl (wl_nil (q_n (k24 _ _ ?_)))
   refine sx_retc ?_
   refine q_br (q_r (q_r (q_br (q_r (sx_ret1 Tryd.results115 rfl ?_)))))
   have hlt := cmpL_gt hl (k := k - 1) (by omega) (by rw [Nat.sub_add_cancel (by omega)]; exact he) (h64)
   exact ⟨iEq hlt.symm, ((cwl10.t d18).t d23)⟩
  refine sx_skip ?_
  refine q_bn (q_n (k13 _ _ ?_))
  refine sx_region ?_
  refine mv rfl rfl (sp rfl (px_sub rfl rfl (by omega)) ?_)
  refine av rfl rfl (wl_nil ?_)
  exact fun a ha => ⟨_, by omega, (k - 1), ha.sub (Sub.c 0 rfl (.c 1 rfl (.c 5 (look_int (t := 5) rfl (by first | omega | simp)) .nil))), ((cwl10.t d18).t d23), rfl, by omega, drop_succ_eq (by omega) (by omega) (by rw [Nat.sub_add_cancel (by omega)]; exact he) (by omega)⟩
 refine sx_exit ?_
 refine q_e (q_e (q_bx (q_n (k8 _ _ ?_))))
 refine sx_seq fun K25 k25 => sx_region ?_
 refine av rfl rfl (wl_nil (q_n (k25 _ _ ?_)))
 refine sx_retc ?_
 refine sx_ret1 Tryd.results115 rfl ?_
 have e1 : k = 0 := by omega
 subst e1
 have e2 : zs = ys := by simpa using he
 subst e2
 exact ⟨iEq (cmpL_self zs).symm, cwl10⟩

theorem c_IntCmp {w : World} {va : Value} {lva uva : Nat} {x : Int} {vb : Value} {lvb uvb : Nat} {y : Int} (hva : Sl w lva uva va (dg x.natAbs)) (hvb : Sl w lvb uvb vb (dg y.natAbs)) (hbx : (dg x.natAbs).length ≤ 50) (hby : (dg y.natAbs).length ≤ 50) :
  Ret Tryd.prog 97 [.agg #[.bool (ng x), va], .agg #[.bool (ng y), vb]] w fun v w' => v = .int .i64 (cmpI x y) ∧ Chg 0 0 w w' := by
 have hva0 := hva.fit
 have hvb0 := hvb.fit
 refine sx_enter Tryd.func97 rfl Tryd.ntmps97 (nbl rfl) ?_
 refine sx_seq fun K1 k1 => sx_region ?_
 refine sx_box [.bool (ng x), va] rfl rfl rfl (fun b2 w3 eb2 sb2 fb2 cb2 => ?_)
 have zw3 := cb2.size
 refine sx_box [.bool (ng y), vb] rfl rfl rfl (fun b4 w5 eb4 sb4 fb4 cb4 => ?_)
 have zw5 := cb4.size
 refine av rfl rfl (wl_nil (q_n (k1 _ _ ?_)))
 refine sx_seq fun K6 k6 => ?_
 refine sx_block ?_
 refine sx_seq fun K7 k7 => sx_region ?_
 have f8 := fb2.ext cb4
 refine sp rfl (px_load rfl (f8.loadA (vs := [.bool (ng x), va]) (look_lit rfl) Tryd.isAgg40 Tryd.sizeOf40)) ?_
 have f9 := hva0.ext cb2
 have f10 := f9.ext cb4
 refine sx_call rfl rfl Tryd.call95 (c_sIntOk f10 (by omega)) (fun v11 w11 p11 => ?_)
 obtain ⟨rfl, c11⟩ := p11
 have zw11 := c11.size
 refine sp rfl (px_notP rfl) ?_
 refine mv rfl rfl ?_
 have h89 : ¬ (¬ (IOk (ng x) (dg x.natAbs))) := by first | exact fun h => h (IOk_ng (by omega)) | exact fun h => h (IOk_ng (by assumption))
 refine sx_tmpPF (t := 9) rfl h89 ?_
 refine sx_guardT rfl rfl rfl ?_
 have f12 := fb4.ext c11
 refine sp rfl (px_load rfl (f12.loadA (vs := [.bool (ng y), vb]) (look_lit rfl) Tryd.isAgg40 Tryd.sizeOf40)) ?_
 refine sx_guardT rfl rfl rfl ?_
 have f13 := hvb0.ext cb2
 have f14 := f13.ext cb4
 have f15 := f14.ext c11
 refine sx_call rfl rfl Tryd.call95 (c_sIntOk f15 (by omega)) (fun v16 w16 p16 => ?_)
 obtain ⟨rfl, c16⟩ := p16
 have zw16 := c16.size
 refine sx_guardT rfl rfl rfl ?_
 refine sp rfl (px_notP rfl) ?_
 refine sp rfl (px_pick rfl rfl) ?_
 refine av rfl rfl (wl_nil (q_n (k7 _ _ ?_)))
 have h89x1 : ¬ (¬ (IOk (ng y) (dg y.natAbs))) := by first | exact fun h => h (IOk_ng (by omega)) | exact fun h => h (IOk_ng (by assumption))
 refine sx_condPF rfl h89x1 ?_
 refine sx_seq fun K17 k17 => sx_region ?_
 refine sp rfl (px_field rfl xfld40x0) ?_
 have f19 := (f8.ext c11).ext c16
 refine sp rfl (px_load rfl (f19.load1 rfl Tryd.isAgg4)) ?_
 refine mv rfl rfl ?_
 refine sx_tmpB (t := 17) rfl (fun h91 => ?_) (fun h91 => ?_)
 ·
  refine sx_guardT rfl rfl rfl ?_
  refine sp rfl (px_field rfl xfld40x0) ?_
  refine sx_guardT rfl rfl rfl ?_
  have f20 := f12.ext c16
  refine sp rfl (px_load rfl (f20.load1 rfl Tryd.isAgg4)) ?_
  refine sx_guardT rfl rfl rfl ?_
  refine sp rfl (px_not rfl) ?_
  refine sp rfl (px_pick rfl rfl) ?_
  refine av rfl rfl (wl_nil (q_n (k17 _ _ ?_)))
  refine sx_sub (Sub.c 2 rfl (.c 3 rfl (.c 4 rfl (.c 14 rfl .nil)))) ?_
  refine sx_condB rfl (fun h91x1 => ?_) (fun h91x1 => ?_)
  ·
   refine sx_seq fun K21 k21 => sx_region ?_
   refine av rfl rfl (wl_nil (q_n (k21 _ _ ?_)))
   refine sx_retc ?_
   refine q_br (q_r (sx_ret1 Tryd.results97 rfl ?_))
   exact ⟨iEq (cmpI_lt (by simp_all [ng] <;> omega)), (((cb2.t cb4).t c11).t c16)⟩
  refine sx_seq fun K22 k22 => sx_region ?_
  refine sp rfl (px_field rfl xfld40x0) ?_
  refine sp rfl (px_load rfl (f19.load1 rfl Tryd.isAgg4)) ?_
  refine sp rfl (px_not rfl) ?_
  refine mv rfl rfl ?_
  refine sx_tmpB (t := 26) rfl (fun h93 => ?_) (fun h93 => ?_)
  ·
   refine sx_guardT rfl rfl rfl ?_
   refine sp rfl (px_field rfl xfld40x0) ?_
   refine sx_guardT rfl rfl rfl ?_
   refine sp rfl (px_load rfl (f20.load1 rfl Tryd.isAgg4)) ?_
   refine sp rfl (px_pick rfl rfl) ?_
   refine av rfl rfl (wl_nil (q_n (k22 _ _ ?_)))
   refine sx_condB rfl (fun h93x1 => ?_) (fun h93x1 => ?_)
   ·
    refine sx_seq fun K23 k23 => sx_region ?_
    refine av rfl rfl (wl_nil (q_n (k23 _ _ ?_)))
    refine sx_retc ?_
    refine q_br (q_r (sx_ret1 Tryd.results97 rfl ?_))
    exact ⟨iEq (cmpI_gt (by simp_all [ng] <;> omega)), (((cb2.t cb4).t c11).t c16)⟩
   refine sx_seq fun K24 k24 => sx_region ?_
   refine sp rfl (px_field rfl xfld40x0) ?_
   refine sp rfl (px_load rfl (f19.load1 rfl Tryd.isAgg4)) ?_
   refine av rfl rfl (wl_nil (q_n (k24 _ _ ?_)))
   refine sx_sub (Sub.c 2 rfl (.c 3 rfl (.c 4 rfl (.c 30 rfl .nil)))) ?_
   refine sx_condB rfl (fun h95 => ?_) (fun h95 => ?_)
   ·
    refine sx_seq fun K25 k25 => sx_region ?_
    refine sp rfl (px_field rfl xfld40x1) ?_
    refine sp rfl (px_load rfl (f20.load1 rfl Tryd.isAgg25)) ?_
    refine sp rfl (px_field rfl xfld40x1) ?_
    refine sp rfl (px_load rfl (f19.load1 rfl Tryd.isAgg25)) ?_
    have f26 := f15.ext c16
    have f28 := (f10.ext c11).ext c16
    refine sx_call rfl rfl Tryd.call115 (c_l02Cmp f26 f28 (by omega)) (fun v29 w29 p29 => ?_)
    obtain ⟨rfl, c29⟩ := p29
    have zw29 := c29.size
    refine av rfl rfl (wl_nil (q_n (k25 _ _ ?_)))
    refine sx_retc ?_
    refine q_br (q_r (sx_ret1 Tryd.results97 rfl ?_))
    exact ⟨iEq (cmpI_mm (by simp_all [ng] <;> omega) (by simp_all [ng] <;> omega)), ((((cb2.t cb4).t c11).t c16).t c29)⟩
   refine sx_skip ?_
   refine q_bn (q_n (k6 _ _ ?_))
   refine sx_seq fun K30 k30 => sx_region ?_
   refine sp rfl (px_field rfl xfld40x1) ?_
   refine sp rfl (px_load rfl (f19.load1 rfl Tryd.isAgg25)) ?_
   refine sp rfl (px_field rfl xfld40x1) ?_
   refine sp rfl (px_load rfl (f20.load1 rfl Tryd.isAgg25)) ?_
   have f32 := (f10.ext c11).ext c16
   have f33 := f15.ext c16
   refine sx_call rfl rfl Tryd.call115 (c_l02Cmp f32 f33 (by omega)) (fun v34 w34 p34 => ?_)
   obtain ⟨rfl, c34⟩ := p34
   have zw34 := c34.size
   refine av rfl rfl (wl_nil (q_n (k30 _ _ ?_)))
   refine sx_retc ?_
   refine sx_ret1 Tryd.results97 rfl ?_
   exact ⟨iEq (cmpI_nn (by simp_all [ng] <;> omega) (by simp_all [ng] <;> omega)), ((((cb2.t cb4).t c11).t c16).t c34)⟩
  refine sx_guardF rfl rfl rfl rfl rfl rfl ?_
  refine sx_guardF rfl rfl rfl rfl rfl rfl ?_
  refine sp rfl (px_pick rfl rfl) ?_
  refine av rfl rfl (wl_nil (q_n (k22 _ _ ?_)))
  refine sx_condF rfl ?_
  refine sx_seq fun K35 k35 => sx_region ?_
  refine sp rfl (px_field rfl xfld40x0) ?_
  refine sp rfl (px_load rfl (f19.load1 rfl Tryd.isAgg4)) ?_
  refine av rfl rfl (wl_nil (q_n (k35 _ _ ?_)))
  refine sx_sub (Sub.c 2 rfl (.c 3 rfl (.c 4 rfl (.c 30 rfl .nil)))) ?_
  refine sx_condB rfl (fun h95 => ?_) (fun h95 => ?_)
  ·
   refine sx_seq fun K36 k36 => sx_region ?_
   refine sp rfl (px_field rfl xfld40x1) ?_
   refine sp rfl (px_load rfl (f20.load1 rfl Tryd.isAgg25)) ?_
   refine sp rfl (px_field rfl xfld40x1) ?_
   refine sp rfl (px_load rfl (f19.load1 rfl Tryd.isAgg25)) ?_
   have f37 := f15.ext c16
   have f39 := (f10.ext c11).ext c16
   refine sx_call rfl rfl Tryd.call115 (c_l02Cmp f37 f39 (by omega)) (fun v40 w40 p40 => ?_)
   obtain ⟨rfl, c40⟩ := p40
   have zw40 := c40.size
   refine av rfl rfl (wl_nil (q_n (k36 _ _ ?_)))
   refine sx_retc ?_
   refine q_br (q_r (sx_ret1 Tryd.results97 rfl ?_))
   exact ⟨iEq (cmpI_mm (by simp_all [ng] <;> omega) (by simp_all [ng] <;> omega)), ((((cb2.t cb4).t c11).t c16).t c40)⟩
  refine sx_skip ?_
  refine q_bn (q_n (k6 _ _ ?_))
  refine sx_seq fun K41 k41 => sx_region ?_
  refine sp rfl (px_field rfl xfld40x1) ?_
  refine sp rfl (px_load rfl (f19.load1 rfl Tryd.isAgg25)) ?_
  refine sp rfl (px_field rfl xfld40x1) ?_
  refine sp rfl (px_load rfl (f20.load1 rfl Tryd.isAgg25)) ?_
  have f43 := (f10.ext c11).ext c16
  have f44 := f15.ext c16
  refine sx_call rfl rfl Tryd.call115 (c_l02Cmp f43 f44 (by omega)) (fun v45 w45 p45 => ?_)
  obtain ⟨rfl, c45⟩ := p45
  have zw45 := c45.size
  refine av rfl rfl (wl_nil (q_n (k41 _ _ ?_)))
  refine sx_retc ?_
  refine sx_ret1 Tryd.results97 rfl ?_
  exact ⟨iEq (cmpI_nn (by simp_all [ng] <;> omega) (by simp_all [ng] <;> omega)), ((((cb2.t cb4).t c11).t c16).t c45)⟩
 refine sx_guardF rfl rfl rfl rfl rfl rfl ?_
 refine sx_guardF rfl rfl rfl rfl rfl rfl ?_
 refine sx_guardF rfl rfl rfl rfl rfl rfl ?_
 refine sp rfl (px_pick rfl rfl) ?_
 refine av rfl rfl (wl_nil (q_n (k17 _ _ ?_)))
 refine sx_sub (Sub.c 2 rfl (.c 3 rfl (.c 4 rfl (.c 14 rfl .nil)))) ?_
 refine sx_condF rfl ?_
 refine sx_seq fun K46 k46 => sx_region ?_
 refine sp rfl (px_field rfl xfld40x0) ?_
 refine sp rfl (px_load rfl (f19.load1 rfl Tryd.isAgg4)) ?_
 refine sp rfl (px_not rfl) ?_
 refine mv rfl rfl ?_
 refine sx_tmpB (t := 26) rfl (fun h93 => ?_) (fun h93 => ?_)
 ·
  refine sx_guardT rfl rfl rfl ?_
  refine sp rfl (px_field rfl xfld40x0) ?_
  refine sx_guardT rfl rfl rfl ?_
  have f47 := f12.ext c16
  refine sp rfl (px_load rfl (f47.load1 rfl Tryd.isAgg4)) ?_
  refine sp rfl (px_pick rfl rfl) ?_
  refine av rfl rfl (wl_nil (q_n (k46 _ _ ?_)))
  refine sx_condB rfl (fun h93x1 => ?_) (fun h93x1 => ?_)
  ·
   refine sx_seq fun K48 k48 => sx_region ?_
   refine av rfl rfl (wl_nil (q_n (k48 _ _ ?_)))
   refine sx_retc ?_
   refine q_br (q_r (sx_ret1 Tryd.results97 rfl ?_))
   exact ⟨iEq (cmpI_gt (by simp_all [ng] <;> omega)), (((cb2.t cb4).t c11).t c16)⟩
  refine sx_seq fun K49 k49 => sx_region ?_
  refine sp rfl (px_field rfl xfld40x0) ?_
  refine sp rfl (px_load rfl (f19.load1 rfl Tryd.isAgg4)) ?_
  refine av rfl rfl (wl_nil (q_n (k49 _ _ ?_)))
  refine sx_sub (Sub.c 2 rfl (.c 3 rfl (.c 4 rfl (.c 30 rfl .nil)))) ?_
  refine sx_condB rfl (fun h95 => ?_) (fun h95 => ?_)
  ·
   refine sx_seq fun K50 k50 => sx_region ?_
   refine sp rfl (px_field rfl xfld40x1) ?_
   refine sp rfl (px_load rfl (f47.load1 rfl Tryd.isAgg25)) ?_
   refine sp rfl (px_field rfl xfld40x1) ?_
   refine sp rfl (px_load rfl (f19.load1 rfl Tryd.isAgg25)) ?_
   have f51 := f15.ext c16
   have f53 := (f10.ext c11).ext c16
   refine sx_call rfl rfl Tryd.call115 (c_l02Cmp f51 f53 (by omega)) (fun v54 w54 p54 => ?_)
   obtain ⟨rfl, c54⟩ := p54
   have zw54 := c54.size
   refine av rfl rfl (wl_nil (q_n (k50 _ _ ?_)))
   refine sx_retc ?_
   refine q_br (q_r (sx_ret1 Tryd.results97 rfl ?_))
   exact ⟨iEq (cmpI_mm (by simp_all [ng] <;> omega) (by simp_all [ng] <;> omega)), ((((cb2.t cb4).t c11).t c16).t c54)⟩
  refine sx_skip ?_
  refine q_bn (q_n (k6 _ _ ?_))
  refine sx_seq fun K55 k55 => sx_region ?_
  refine sp rfl (px_field rfl xfld40x1) ?_
  refine sp rfl (px_load rfl (f19.load1 rfl Tryd.isAgg25)) ?_
  refine sp rfl (px_field rfl xfld40x1) ?_
  refine sp rfl (px_load rfl (f47.load1 rfl Tryd.isAgg25)) ?_
  have f57 := (f10.ext c11).ext c16
  have f58 := f15.ext c16
  refine sx_call rfl rfl Tryd.call115 (c_l02Cmp f57 f58 (by omega)) (fun v59 w59 p59 => ?_)
  obtain ⟨rfl, c59⟩ := p59
  have zw59 := c59.size
  refine av rfl rfl (wl_nil (q_n (k55 _ _ ?_)))
  refine sx_retc ?_
  refine sx_ret1 Tryd.results97 rfl ?_
  exact ⟨iEq (cmpI_nn (by simp_all [ng] <;> omega) (by simp_all [ng] <;> omega)), ((((cb2.t cb4).t c11).t c16).t c59)⟩
 refine sx_guardF rfl rfl rfl rfl rfl rfl ?_
 refine sx_guardF rfl rfl rfl rfl rfl rfl ?_
 refine sp rfl (px_pick rfl rfl) ?_
 refine av rfl rfl (wl_nil (q_n (k46 _ _ ?_)))
 refine sx_condF rfl ?_
 refine sx_seq fun K60 k60 => sx_region ?_
 refine sp rfl (px_field rfl xfld40x0) ?_
 refine sp rfl (px_load rfl (f19.load1 rfl Tryd.isAgg4)) ?_
 refine av rfl rfl (wl_nil (q_n (k60 _ _ ?_)))
 refine sx_sub (Sub.c 2 rfl (.c 3 rfl (.c 4 rfl (.c 30 rfl .nil)))) ?_
 refine sx_condB rfl (fun h95 => ?_) (fun h95 => ?_)
 ·
  refine sx_seq fun K61 k61 => sx_region ?_
  refine sp rfl (px_field rfl xfld40x1) ?_
  have f62 := f12.ext c16
  refine sp rfl (px_load rfl (f62.load1 rfl Tryd.isAgg25)) ?_
  refine sp rfl (px_field rfl xfld40x1) ?_
  refine sp rfl (px_load rfl (f19.load1 rfl Tryd.isAgg25)) ?_
  have f63 := f15.ext c16
  have f65 := (f10.ext c11).ext c16
  refine sx_call rfl rfl Tryd.call115 (c_l02Cmp f63 f65 (by omega)) (fun v66 w66 p66 => ?_)
  obtain ⟨rfl, c66⟩ := p66
  have zw66 := c66.size
  refine av rfl rfl (wl_nil (q_n (k61 _ _ ?_)))
  refine sx_retc ?_
  refine q_br (q_r (sx_ret1 Tryd.results97 rfl ?_))
  exact ⟨iEq (cmpI_mm (by simp_all [ng] <;> omega) (by simp_all [ng] <;> omega)), ((((cb2.t cb4).t c11).t c16).t c66)⟩
 refine sx_skip ?_
 refine q_bn (q_n (k6 _ _ ?_))
 refine sx_seq fun K67 k67 => sx_region ?_
 refine sp rfl (px_field rfl xfld40x1) ?_
 refine sp rfl (px_load rfl (f19.load1 rfl Tryd.isAgg25)) ?_
 refine sp rfl (px_field rfl xfld40x1) ?_
 have f68 := f12.ext c16
 refine sp rfl (px_load rfl (f68.load1 rfl Tryd.isAgg25)) ?_
 have f70 := (f10.ext c11).ext c16
 have f71 := f15.ext c16
 refine sx_call rfl rfl Tryd.call115 (c_l02Cmp f70 f71 (by omega)) (fun v72 w72 p72 => ?_)
 obtain ⟨rfl, c72⟩ := p72
 have zw72 := c72.size
 refine av rfl rfl (wl_nil (q_n (k67 _ _ ?_)))
 refine sx_retc ?_
 refine sx_ret1 Tryd.results97 rfl ?_
 exact ⟨iEq (cmpI_nn (by simp_all [ng] <;> omega) (by simp_all [ng] <;> omega)), ((((cb2.t cb4).t c11).t c16).t c72)⟩

theorem c_IntCmpZ {w : World} {va : Value} {lva uva : Nat} {x : Int} {b : Bool} {vb : Value} {lvb uvb : Nat} {ys : List Int} (hva : Sl w lva uva va (dg x.natAbs)) (hvb : Sl w lvb uvb vb (ys)) (hbx : (dg x.natAbs).length ≤ 50) (hb : b = false) (hy : ys = []) :
  Ret Tryd.prog 97 [.agg #[.bool (ng x), va], .agg #[.bool b, vb]] w fun v w' => v = .int .i64 (cmpI x 0) ∧ Chg 0 0 w w' := by
 have h := c_IntCmp (y := 0) (vb := vb) hva (by rw [Int.natAbs_zero, dg_zero]; rw [hy] at hvb; exact hvb) hbx (by rw [Int.natAbs_zero, dg_zero]; simp)
 rw [hb, show false = ng 0 by simp [ng]]; exact h

theorem c_sIntSign {w : World} {va : Value} {lva uva : Nat} {x : Int} (hva : Sl w lva uva va (dg x.natAbs)) (hbx : (dg x.natAbs).length ≤ 50) :
  Ret Tryd.prog 67 [.agg #[.bool (ng x), va]] w fun v w' => v = .int .i64 (cmpI x 0) ∧ Chg 0 0 w w' := by
 have hva0 := hva.fit
 refine sx_enter Tryd.func67 rfl Tryd.ntmps67 (nbl rfl) ?_
 refine sx_seq fun K1 k1 => sx_region ?_
 refine sx_box [.bool (ng x), va] rfl rfl rfl (fun b2 w3 eb2 sb2 fb2 cb2 => ?_)
 have zw3 := cb2.size
 refine av rfl rfl (wl_nil (q_n (k1 _ _ ?_)))
 refine sx_seq fun K4 k4 => sx_region ?_
 refine sp rfl (px_load rfl (fb2.loadA (vs := [.bool (ng x), va]) (look_lit rfl) Tryd.isAgg40 Tryd.sizeOf40)) ?_
 refine sp rfl (px_build rfl (xbld40x  _)) ?_
 have f5 := hva0.ext cb2
 refine sx_call rfl rfl Tryd.call97 (c_IntCmpZ f5 (Sv.nil _ 0 0 1) (by omega) (rfl) (rfl)) (fun v6 w6 p6 => ?_)
 obtain ⟨rfl, c6⟩ := p6
 have zw6 := c6.size
 refine av rfl rfl (wl_nil (q_n (k4 _ _ ?_)))
 refine sx_retc ?_
 refine sx_ret1 Tryd.results67 rfl ?_
 exact ⟨rfl, (cb2.t c6)⟩

theorem c_sRateOk {w : World} {f1 : ByteArray} {t1 : ByteArray} {n1 : Bool} {v1 : Value} {lv1 uv1 : Nat} {z1 : List Int} {p1 : Int} (hv1 : Sl w lv1 uv1 v1 (z1)) (h63 : z1.length ≤ 4611686018427387904) :
  Ret Tryd.prog 30 [.agg #[.string f1, .string t1, .bool n1, v1, .int .i64 p1]] w fun v w' => v = .bool (decide (RateP f1 t1 n1 z1 p1)) ∧ Chg 0 0 w w' := by
 have hv10 := hv1.fit
 refine sx_enter Tryd.func30 rfl Tryd.ntmps30 (nbl rfl) ?_
 refine sx_seq fun K1 k1 => sx_region ?_
 refine sx_box [.string f1, .string t1, .bool n1, v1, .int .i64 p1] rfl rfl rfl (fun b2 w3 eb2 sb2 fb2 cb2 => ?_)
 have zw3 := cb2.size
 refine av rfl rfl (wl_nil (q_n (k1 _ _ ?_)))
 refine sx_seq fun K4 k4 => sx_region ?_
 refine sp rfl (px_field rfl xfld44x0) ?_
 refine sp rfl (px_load rfl (fb2.load1 rfl Tryd.isAgg9)) ?_
 refine sx_call rfl rfl Tryd.call65 (c_sCurKnown) (fun v5 w5 p5 => ?_)
 obtain ⟨rfl, c5⟩ := p5
 have zw5 := c5.size
 refine mv rfl rfl ?_
 refine sx_tmpP (t := 6) rfl (fun h7 => ?_) (fun h7 => ?_)
 ·
  refine sx_guardT rfl rfl rfl ?_
  refine sp rfl (px_field rfl xfld44x1) ?_
  refine sx_guardT rfl rfl rfl ?_
  have f6 := fb2.ext c5
  refine sp rfl (px_load rfl (f6.load1 rfl Tryd.isAgg9)) ?_
  refine sx_guardT rfl rfl rfl ?_
  refine sx_call rfl rfl Tryd.call65 (c_sCurKnown) (fun v7 w7 p7 => ?_)
  obtain ⟨rfl, c7⟩ := p7
  have zw7 := c7.size
  refine sp rfl (px_pick rfl rfl) ?_
  refine mv rfl rfl ?_
  refine sx_tmpP (t := 11) rfl (fun h7x1 => ?_) (fun h7x1 => ?_)
  ·
   refine sx_guardT rfl rfl rfl ?_
   refine sp rfl (px_field rfl xfld44x0) ?_
   refine sx_guardT rfl rfl rfl ?_
   have f8 := f6.ext c7
   refine sp rfl (px_load rfl (f8.load1 rfl Tryd.isAgg9)) ?_
   refine sx_guardT rfl rfl rfl ?_
   refine sp rfl (px_field rfl xfld44x1) ?_
   refine sx_guardT rfl rfl rfl ?_
   refine sp rfl (px_load rfl (f8.load1 rfl Tryd.isAgg9)) ?_
   refine sx_guardT rfl rfl rfl ?_
   refine sp rfl (px_neS rfl rfl) ?_
   refine sp rfl (px_pick rfl rfl) ?_
   refine mv rfl rfl ?_
   refine sx_tmpP (t := 18) rfl (fun h7x2 => ?_) (fun h7x2 => ?_)
   ·
    refine sx_guardT rfl rfl rfl ?_
    refine sp rfl (px_field rfl xfld44x2) ?_
    refine sx_guardT rfl rfl rfl ?_
    refine sp rfl (px_load rfl (f8.loadA (vs := [.bool n1, v1, .int .i64 p1]) (look_lit rfl) Tryd.isAgg42 Tryd.sizeOf42)) ?_
    refine sx_guardT rfl rfl rfl ?_
    have f9 := hv10.ext cb2
    have f11 := (f9.ext c5).ext c7
    refine sx_call rfl rfl Tryd.call66 (c_sDecOk f11 (by omega)) (fun v12 w12 p12 => ?_)
    obtain ⟨rfl, c12⟩ := p12
    have zw12 := c12.size
    refine sp rfl (px_pick rfl rfl) ?_
    refine mv rfl rfl ?_
    refine sx_tmpP (t := 23) rfl (fun h7x3 => ?_) (fun h7x3 => ?_)
    ·
     have hD := h7x3
     obtain ⟨x1, rfl, rfl, hx1⟩ := hD.int
     have hvx := vI_ng x1
     have hsx := sign_gt (x := x1)
     have hcx := cmpI_gt0 (x := x1)
     refine sx_guardT rfl rfl rfl ?_
     refine sp rfl (px_field rfl xfld44x2) ?_
     refine sx_guardT rfl rfl rfl ?_
     refine sp rfl (px_field rfl xfld42x0) ?_
     refine sx_guardT rfl rfl rfl ?_
     have f13 := f8.ext c12
     refine sp rfl (px_load rfl (f13.loadA (vs := [.bool (ng x1), v1]) (look_lit rfl) Tryd.isAgg40 Tryd.sizeOf40)) ?_
     refine sx_guardT rfl rfl rfl ?_
     have f14 := f11.ext c12
     refine sx_call rfl rfl Tryd.call67 (c_sIntSign f14 (by omega)) (fun v15 w15 p15 => ?_)
     obtain ⟨rfl, c15⟩ := p15
     have zw15 := c15.size
     refine sx_guardT rfl rfl rfl ?_
     refine sp rfl (px_gt rfl rfl) ?_
     refine sp rfl (px_pick rfl rfl) ?_
     refine mv rfl rfl ?_
     refine sx_tmpP (t := 30) rfl (fun h7x4 => ?_) (fun h7x4 => ?_)
     ·
      refine sx_guardT rfl rfl rfl ?_
      refine sp rfl (px_field rfl xfld44x2) ?_
      refine sx_guardT rfl rfl rfl ?_
      refine sp rfl (px_field rfl xfld42x0) ?_
      refine sx_guardT rfl rfl rfl ?_
      refine sp rfl (px_field rfl xfld40x1) ?_
      refine sx_guardT rfl rfl rfl ?_
      have f16 := f13.ext c15
      refine sp rfl (px_load rfl (f16.load1 rfl Tryd.isAgg25)) ?_
      refine sx_guardT rfl rfl rfl ?_
      have f17 := f14.ext c15
      refine sp rfl (px_len rfl Tryd.underlying25 f17) ?_
      refine sx_guardT rfl rfl rfl ?_
      refine sp rfl (px_le rfl rfl) ?_
      refine sp rfl (px_pick rfl rfl) ?_
      refine av rfl rfl (wl_nil (q_n (k4 _ _ ?_)))
      refine sx_sub (Sub.c 2 rfl .nil) ?_
      refine sx_retc ?_
      refine sx_ret1 Tryd.results30 rfl ?_
      exact ⟨(by first | exact bTrue (by grind [RateP]) | exact bFalse (by grind [RateP]) | exact bIff (by grind [RateP])), ((((cb2.t c5).t c7).t c12).t c15)⟩
     refine sx_guardF rfl rfl rfl rfl rfl rfl ?_
     refine sx_guardF rfl rfl rfl rfl rfl rfl ?_
     refine sx_guardF rfl rfl rfl rfl rfl rfl ?_
     refine sx_guardF rfl rfl rfl rfl rfl rfl ?_
     refine sx_guardF rfl rfl rfl rfl rfl rfl ?_
     refine sx_guardF rfl rfl rfl rfl rfl rfl ?_
     refine sp rfl (px_pick rfl rfl) ?_
     refine av rfl rfl (wl_nil (q_n (k4 _ _ ?_)))
     refine sx_sub (Sub.c 2 rfl .nil) ?_
     refine sx_retc ?_
     refine sx_ret1 Tryd.results30 rfl ?_
     exact ⟨(by first | exact bTrue (by grind [RateP]) | exact bFalse (by grind [RateP]) | exact bIff (by grind [RateP])), ((((cb2.t c5).t c7).t c12).t c15)⟩
    refine sx_guardF rfl rfl rfl rfl rfl rfl ?_
    refine sx_guardF rfl rfl rfl rfl rfl rfl ?_
    refine sx_guardF rfl rfl rfl rfl rfl rfl ?_
    refine sx_guardF rfl rfl rfl rfl rfl rfl ?_
    refine sx_guardF rfl rfl rfl rfl rfl rfl ?_
    refine sp rfl (px_pick rfl rfl) ?_
    refine mv rfl rfl ?_
    refine sx_guardF rfl rfl rfl rfl rfl rfl ?_
    refine sx_guardF rfl rfl rfl rfl rfl rfl ?_
    refine sx_guardF rfl rfl rfl rfl rfl rfl ?_
    refine sx_guardF rfl rfl rfl rfl rfl rfl ?_
    refine sx_guardF rfl rfl rfl rfl rfl rfl ?_
    refine sx_guardF rfl rfl rfl rfl rfl rfl ?_
    refine sp rfl (px_pick rfl rfl) ?_
    refine av rfl rfl (wl_nil (q_n (k4 _ _ ?_)))
    refine sx_sub (Sub.c 2 rfl .nil) ?_
    refine sx_retc ?_
    refine sx_ret1 Tryd.results30 rfl ?_
    exact ⟨(by first | exact bTrue (by grind [RateP]) | exact bFalse (by grind [RateP]) | exact bIff (by grind [RateP])), (((cb2.t c5).t c7).t c12)⟩
   refine sx_guardF rfl rfl rfl rfl rfl rfl ?_
   refine sx_guardF rfl rfl rfl rfl rfl rfl ?_
   refine sx_guardF rfl rfl rfl rfl rfl rfl ?_
   refine sp rfl (px_pick rfl rfl) ?_
   refine mv rfl rfl ?_
   refine sx_guardF rfl rfl rfl rfl rfl rfl ?_
   refine sx_guardF rfl rfl rfl rfl rfl rfl ?_
   refine sx_guardF rfl rfl rfl rfl rfl rfl ?_
   refine sx_guardF rfl rfl rfl rfl rfl rfl ?_
   refine sx_guardF rfl rfl rfl rfl rfl rfl ?_
   refine sp rfl (px_pick rfl rfl) ?_
   refine mv rfl rfl ?_
   refine sx_guardF rfl rfl rfl rfl rfl rfl ?_
   refine sx_guardF rfl rfl rfl rfl rfl rfl ?_
   refine sx_guardF rfl rfl rfl rfl rfl rfl ?_
   refine sx_guardF rfl rfl rfl rfl rfl rfl ?_
   refine sx_guardF rfl rfl rfl rfl rfl rfl ?_
   refine sx_guardF rfl rfl rfl rfl rfl rfl ?_
   refine sp rfl (px_pick rfl rfl) ?_
   refine av rfl rfl (wl_nil (q_n (k4 _ _ ?_)))
   refine sx_sub (Sub.c 2 rfl .nil) ?_
   refine sx_retc ?_
   refine sx_ret1 Tryd.results30 rfl ?_
   exact ⟨(by first | exact bTrue (by grind [RateP]) | exact bFalse (by grind [RateP]) | exact bIff (by grind [RateP])), ((cb2.t c5).t c7)⟩
  refine sx_guardF rfl rfl rfl rfl rfl rfl ?_
  refine sx_guardF rfl rfl rfl rfl rfl rfl ?_
  refine sx_guardF rfl rfl rfl rfl rfl rfl ?_
  refine sx_guardF rfl rfl rfl rfl rfl rfl ?_
  refine sx_guardF rfl rfl rfl rfl rfl rfl ?_
  refine sp rfl (px_pick rfl rfl) ?_
  refine mv rfl rfl ?_
  refine sx_guardF rfl rfl rfl rfl rfl rfl ?_
  refine sx_guardF rfl rfl rfl rfl rfl rfl ?_
  refine sx_guardF rfl rfl rfl rfl rfl rfl ?_
  refine sp rfl (px_pick rfl rfl) ?_
  refine mv rfl rfl ?_
  refine sx_guardF rfl rfl rfl rfl rfl rfl ?_
  refine sx_guardF rfl rfl rfl rfl rfl rfl ?_
  refine sx_guardF rfl rfl rfl rfl rfl rfl ?_
  refine sx_guardF rfl rfl rfl rfl rfl rfl ?_
  refine sx_guardF rfl rfl rfl rfl rfl rfl ?_
  refine sp rfl (px_pick rfl rfl) ?_
  refine mv rfl rfl ?_
  refine sx_guardF rfl rfl rfl rfl rfl rfl ?_
  refine sx_guardF rfl rfl rfl rfl rfl rfl ?_
  refine sx_guardF rfl rfl rfl rfl rfl rfl ?_
  refine sx_guardF rfl rfl rfl rfl rfl rfl ?_
  refine sx_guardF rfl rfl rfl rfl rfl rfl ?_
  refine sx_guardF rfl rfl rfl rfl rfl rfl ?_
  refine sp rfl (px_pick rfl rfl) ?_
  refine av rfl rfl (wl_nil (q_n (k4 _ _ ?_)))
  refine sx_sub (Sub.c 2 rfl .nil) ?_
  refine sx_retc ?_
  refine sx_ret1 Tryd.results30 rfl ?_
  exact ⟨(by first | exact bTrue (by grind [RateP]) | exact bFalse (by grind [RateP]) | exact bIff (by grind [RateP])), ((cb2.t c5).t c7)⟩
 refine sx_guardF rfl rfl rfl rfl rfl rfl ?_
 refine sx_guardF rfl rfl rfl rfl rfl rfl ?_
 refine sx_guardF rfl rfl rfl rfl rfl rfl ?_
 refine sp rfl (px_pick rfl rfl) ?_
 refine mv rfl rfl ?_
 refine sx_guardF rfl rfl rfl rfl rfl rfl ?_
 refine sx_guardF rfl rfl rfl rfl rfl rfl ?_
 refine sx_guardF rfl rfl rfl rfl rfl rfl ?_
 refine sx_guardF rfl rfl rfl rfl rfl rfl ?_
 refine sx_guardF rfl rfl rfl rfl rfl rfl ?_
 refine sp rfl (px_pick rfl rfl) ?_
 refine mv rfl rfl ?_
 refine sx_guardF rfl rfl rfl rfl rfl rfl ?_
 refine sx_guardF rfl rfl rfl rfl rfl rfl ?_
 refine sx_guardF rfl rfl rfl rfl rfl rfl ?_
 refine sp rfl (px_pick rfl rfl) ?_
 refine mv rfl rfl ?_
 refine sx_guardF rfl rfl rfl rfl rfl rfl ?_
 refine sx_guardF rfl rfl rfl rfl rfl rfl ?_
 refine sx_guardF rfl rfl rfl rfl rfl rfl ?_
 refine sx_guardF rfl rfl rfl rfl rfl rfl ?_
 refine sx_guardF rfl rfl rfl rfl rfl rfl ?_
 refine sp rfl (px_pick rfl rfl) ?_
 refine mv rfl rfl ?_
 refine sx_guardF rfl rfl rfl rfl rfl rfl ?_
 refine sx_guardF rfl rfl rfl rfl rfl rfl ?_
 refine sx_guardF rfl rfl rfl rfl rfl rfl ?_
 refine sx_guardF rfl rfl rfl rfl rfl rfl ?_
 refine sx_guardF rfl rfl rfl rfl rfl rfl ?_
 refine sx_guardF rfl rfl rfl rfl rfl rfl ?_
 refine sp rfl (px_pick rfl rfl) ?_
 refine av rfl rfl (wl_nil (q_n (k4 _ _ ?_)))
 refine sx_sub (Sub.c 2 rfl .nil) ?_
 refine sx_retc ?_
 refine sx_ret1 Tryd.results30 rfl ?_
 exact ⟨(by first | exact bTrue (by grind [RateP]) | exact bFalse (by grind [RateP]) | exact bIff (by grind [RateP])), (cb2.t c5)⟩

theorem c_l10At {w : World} {vt : Value} {lvt uvt : Nat} {ts : List Rt} {vvt : List Value} {a : ByteArray} {b : ByteArray} (hvt : RtS w lvt uvt vt ts vvt) (h63 : ts.length ≤ 4611686018427387904) :
  Ret Tryd.prog 32 [vt, .string a, .string b] w fun v w' => v = .int .i64 (atI ts a b) ∧ Chg 0 0 w w' := by
 have hvt0 := hvt.fit
 refine sx_enter Tryd.func32 rfl Tryd.ntmps32 (nbl rfl) ?_
 refine sx_seq fun K1 k1 => sx_region ?_
 refine av rfl rfl (wl_nil (q_n (k1 _ _ ?_)))
 refine sx_seq fun K2 k2 => ?_
 refine sx_seq fun K3 k3 => sx_region ?_
 refine mv rfl rfl (sp rfl (px_len rfl Tryd.underlying34 hvt0.sv) ?_)
 refine mv rfl rfl (wl_nil (q_n (k3 _ _ ?_)))
 refine sx_block ?_
 refine sx_loop (fun mm aa w' => ∃ (k : Nat), Agr 28 [(1, .string a), (2, .string b), (9, vt), (10, .int .i64 (↑(ts).length)), (11, .int .i64 ↑k)] aa ∧ Chg 0 0 w w' ∧ (mm = ts.length - k) ∧ (k ≤ ts.length) ∧ (∀ i, i < k → ¬ ((ts.getD i rt0).1 = a ∧ (ts.getD i rt0).2.1 = b))) (_) (fun a ha => ⟨0, ha.sub (Sub.c 1 rfl (.c 2 rfl (.c 9 rfl (.c 10 (look_int (t := 10) rfl (by first | omega | simp)) (.c 11 (look_int (t := 11) rfl (by first | omega | simp)) .nil))))), Chg.refl _ _ _, rfl, by omega, fun i hi => by omega⟩) ?_
 rintro mm aa wl4 ⟨k, hAwl4, cwl4, hm, hk, hn⟩
 refine (show cw Tryd.prog 28 _ _ _ wl4 from ?_) aa hAwl4
 clear hAwl4
 have zwl4 := cwl4.size
 refine sx_seq fun K5 k5 => sx_region ?_
 refine sp rfl (px_lt rfl rfl) ?_
 refine wl_nil (q_n (k5 _ _ ?_))
 refine sx_seq fun K6 k6 => ?_
 refine sx_condP rfl (fun h11 => ?_) (fun h11 => ?_)
 ·
  refine sx_skip ?_
  refine q_n (k6 _ _ ?_)
  refine sx_seq fun K7 k7 => ?_
  refine sx_block ?_
  refine sx_seq fun K8 k8 => sx_region ?_
  refine mv rfl rfl ?_
  have f9 := hvt0.ext cwl4
  refine sp rfl (px_indexK (j := k) rfl rfl (by omega) Tryd.underlying34 Tryd.sizeOf44 f9.sv (by omega)) ?_
  refine sp rfl (px_load rfl (f9.sv.loadA (rt_look f9.len (by omega)) Tryd.isAgg44 Tryd.sizeOf44)) ?_
  refine sx_alloc [.string (⟨#[]⟩), .string (⟨#[]⟩), .bool false, (.slice none 0 0), .int .i64 0] rfl Tryd.zeroValue44 rfl (fun b10 w11 eb10 sb10 fb10 cb10 => ?_)
  have zw11 := cb10.size
  refine av rfl rfl ?_
  have f13 := (f9.nest k (by omega)).ext cb10
  refine sx_store (vs := [.string ((ts.getD k rt0).1), .string ((ts.getD k rt0).2.1), .bool ((ts.getD k rt0).2.2.1), (vvt.getD k vz), .int .i64 ((ts.getD k rt0).2.2.2.2)]) rfl rfl fb10 rfl Tryd.sizeOf44 (nbl rfl) (one_cons rfl (one_cons rfl (one_cons rfl (one_cons f13.one (o1 rfl))))) (fun w12 sw12 fw12 cw12 => ?_)
  have zw12 := cw12.size
  have gw12 : Blk w12 b10 [.string ((ts.getD k rt0).1), .string ((ts.getD k rt0).2.1), .bool ((ts.getD k rt0).2.2.1), (vvt.getD k vz), .int .i64 ((ts.getD k rt0).2.2.2.2)] 44 := fw12
  refine wl_nil (q_n (k8 _ _ ?_))
  refine sx_seq fun K14 k14 => sx_region ?_
  refine sp rfl (px_field rfl xfld44x0) ?_
  refine sp rfl (px_load rfl (gw12.load1 rfl Tryd.isAgg9)) ?_
  refine mv rfl rfl (sp rfl (px_eqS rfl rfl) ?_)
  refine mv rfl rfl ?_
  refine sx_tmpP (t := 20) rfl (fun h12 => ?_) (fun h12 => ?_)
  ·
   refine sx_guardT rfl rfl rfl ?_
   refine sp rfl (px_field rfl xfld44x1) ?_
   refine sx_guardT rfl rfl rfl ?_
   refine sp rfl (px_load rfl (gw12.load1 rfl Tryd.isAgg9)) ?_
   refine sx_guardT rfl rfl rfl ?_
   refine mv rfl rfl ?_
   refine sx_guardT rfl rfl rfl ?_
   refine sp rfl (px_eqS rfl rfl) ?_
   refine sp rfl (px_pick rfl rfl) ?_
   refine wl_nil (q_n (k14 _ _ ?_))
   refine sx_sub (Sub.c 1 rfl (.c 2 rfl (.c 7 rfl (.c 9 rfl (.c 10 rfl (.c 11 rfl (.c 25 rfl .nil))))))) ?_
   refine sx_condP rfl (fun h12x1 => ?_) (fun h12x1 => ?_)
   ·
    refine sx_seq fun K15 k15 => sx_region ?_
    refine mv rfl rfl (av rfl rfl (wl_nil (q_n (k15 _ _ ?_))))
    refine sx_retc ?_
    refine q_br (q_r (q_r (q_br (q_r (sx_ret1 Tryd.results32 rfl ?_)))))
    have q16 := Chg.step (l := 0) (h := 0) (Chg.zero (l := 0) (h := 0) (cwl4.t cb10)) cw12 (by omega)
    exact ⟨(by rw [atI_some (by omega) hn ⟨h12, h12x1⟩]), q16⟩
   refine sx_skip ?_
   refine q_bn (q_n (k7 _ _ ?_))
   refine sx_region ?_
   refine sp rfl (px_add rfl rfl (by omega)) ?_
   refine mv rfl rfl (wl_nil ?_)
   have q17 := Chg.step (l := 0) (h := 0) (Chg.zero (l := 0) (h := 0) (cwl4.t cb10)) cw12 (by omega)
   exact fun a ha => ⟨_, by omega, (k + 1), ha.sub (Sub.c 1 rfl (.c 2 rfl (.c 9 rfl (.c 10 rfl (.c 11 (look_int (t := 11) rfl (by first | omega | simp)) .nil))))), q17, rfl, by omega, upto_next hn (fun hh => by first | exact h12 hh.1 | exact h12x1 hh.2)⟩
  refine sx_guardF rfl rfl rfl rfl rfl rfl ?_
  refine sx_guardF rfl rfl rfl rfl rfl rfl ?_
  refine sx_guardF rfl rfl rfl rfl rfl rfl ?_
  refine sx_guardF rfl rfl rfl rfl rfl rfl ?_
  refine sp rfl (px_pick rfl rfl) ?_
  refine wl_nil (q_n (k14 _ _ ?_))
  refine sx_sub (Sub.c 1 rfl (.c 2 rfl (.c 7 rfl (.c 9 rfl (.c 10 rfl (.c 11 rfl (.c 25 rfl .nil))))))) ?_
  refine sx_condF rfl ?_
  refine sx_skip ?_
  refine q_bn (q_n (k7 _ _ ?_))
  refine sx_region ?_
  refine sp rfl (px_add rfl rfl (by omega)) ?_
  refine mv rfl rfl (wl_nil ?_)
  have q18 := Chg.step (l := 0) (h := 0) (Chg.zero (l := 0) (h := 0) (cwl4.t cb10)) cw12 (by omega)
  exact fun a ha => ⟨_, by omega, (k + 1), ha.sub (Sub.c 1 rfl (.c 2 rfl (.c 9 rfl (.c 10 rfl (.c 11 (look_int (t := 11) rfl (by first | omega | simp)) .nil))))), q18, rfl, by omega, upto_next hn (fun hh => by first | exact h12 hh.1 | exact h12x1 hh.2)⟩
 refine sx_exit ?_
 refine q_e (q_e (q_bx (q_n (k2 _ _ ?_))))
 refine sx_seq fun K19 k19 => sx_region ?_
 refine av rfl rfl (wl_nil (q_n (k19 _ _ ?_)))
 refine sx_retc ?_
 refine sx_ret1 Tryd.results32 rfl ?_
 exact ⟨(by rw [atI_none (fun i hi => hn i (by omega))]), cwl4⟩

theorem c_sRatesOk {w : World} {pv : ByteArray} {vt : Value} {lvt uvt : Nat} {ts : List Rt} {vvt : List Value} (hvt : RtS w lvt uvt vt ts vvt) (h63 : ts.length ≤ 4611686018427387904) (hz : ∀ i, i < ts.length → (ts.getD i rt0).2.2.2.1.length ≤ 4611686018427387904) :
  Ret Tryd.prog 29 [.agg #[.string pv, vt]] w fun v w' => v = .bool (decide (RsOk pv ts)) ∧ Chg 0 0 w w' := by
 have hvt0 := hvt.fit
 refine sx_enter Tryd.func29 rfl Tryd.ntmps29 (nbl rfl) ?_
 refine sx_seq fun K1 k1 => sx_region ?_
 refine sx_box [.string pv, vt] rfl rfl rfl (fun b2 w3 eb2 sb2 fb2 cb2 => ?_)
 have zw3 := cb2.size
 refine av rfl rfl (wl_nil (q_n (k1 _ _ ?_)))
 refine sx_seq fun K4 k4 => ?_
 refine sx_seq fun K5 k5 => sx_region ?_
 refine sp rfl (px_field rfl xfld36x0) ?_
 refine sp rfl (px_load rfl (fb2.load1 rfl Tryd.isAgg9)) ?_
 refine sx_call rfl rfl Tryd.call65 (c_sCurKnown) (fun v6 w6 p6 => ?_)
 obtain ⟨rfl, c6⟩ := p6
 have zw6 := c6.size
 refine sp rfl (px_notP rfl) ?_
 refine mv rfl rfl ?_
 refine sx_tmpP (t := 9) rfl (fun h21 => ?_) (fun h21 => ?_)
 ·
  refine sx_guardF rfl rfl rfl rfl rfl rfl ?_
  refine sx_guardF rfl rfl rfl rfl rfl rfl ?_
  refine sx_guardF rfl rfl rfl rfl rfl rfl ?_
  refine sx_guardF rfl rfl rfl rfl rfl rfl ?_
  refine sp rfl (px_pick rfl rfl) ?_
  refine wl_nil (q_n (k5 _ _ ?_))
  refine sx_condT rfl ?_
  refine sx_seq fun K7 k7 => sx_region ?_
  refine av rfl rfl (wl_nil (q_n (k7 _ _ ?_)))
  refine sx_retc ?_
  refine q_r (sx_ret1 Tryd.results29 rfl ?_)
  exact ⟨bFalse (fun h => by first | exact absurd h.1 (by assumption) | (have := h.2.1; omega)), (cb2.t c6)⟩
 refine sx_guardT rfl rfl rfl ?_
 refine sp rfl (px_field rfl xfld36x1) ?_
 refine sx_guardT rfl rfl rfl ?_
 have f8 := fb2.ext c6
 refine sp rfl (px_load rfl (f8.load1 rfl Tryd.isAgg34)) ?_
 refine sx_guardT rfl rfl rfl ?_
 have f9 := hvt0.ext cb2
 have f10 := f9.ext c6
 refine sp rfl (px_len rfl Tryd.underlying34 f10.sv) ?_
 refine sx_guardT rfl rfl rfl ?_
 refine sp rfl (px_gt rfl rfl) ?_
 refine sp rfl (px_pick rfl rfl) ?_
 refine wl_nil (q_n (k5 _ _ ?_))
 refine sx_condP rfl (fun h21x1 => ?_) (fun h21x1 => ?_)
 ·
  refine sx_seq fun K11 k11 => sx_region ?_
  refine av rfl rfl (wl_nil (q_n (k11 _ _ ?_)))
  refine sx_retc ?_
  refine q_r (sx_ret1 Tryd.results29 rfl ?_)
  exact ⟨bFalse (fun h => by first | exact absurd h.1 (by assumption) | (have := h.2.1; omega)), (cb2.t c6)⟩
 refine sx_skip ?_
 refine q_n (k4 _ _ ?_)
 refine sx_seq fun K12 k12 => ?_
 refine sx_seq fun K13 k13 => sx_region ?_
 refine sp rfl (px_field rfl xfld36x1) ?_
 refine sp rfl (px_load rfl (f8.load1 rfl Tryd.isAgg34)) ?_
 refine sp rfl (px_len rfl Tryd.underlying34 f10.sv) ?_
 refine mv rfl rfl (wl_nil (q_n (k13 _ _ ?_)))
 refine sx_sub (Sub.c 1 rfl (.c 2 rfl (.c 16 rfl (.c 17 rfl (.c 18 rfl .nil))))) ?_
 refine sx_block ?_
 refine sx_loop (fun mm aa w' => ∃ (k : Nat), Agr 38 [(1, .pointer (some ⟨b2, 0, none⟩)), (16, vt), (17, .int .i64 (↑(ts).length)), (18, .int .i64 ↑k)] aa ∧ Chg b2 (b2 + 1) w6 w' ∧ Blk w' b2 [.string pv, vt] 36 ∧ (mm = ts.length - k) ∧ (k ≤ ts.length) ∧ (AllTo ts k)) (_) (fun a ha => ⟨0, ha.sub (Sub.c 1 rfl (.c 16 rfl (.c 17 (look_int (t := 17) rfl (by first | omega | simp)) (.c 18 (look_int (t := 18) rfl (by first | omega | simp)) .nil)))), Chg.refl _ _ _, f8, rfl, by omega, AllTo_zero ts⟩) ?_
 rintro mm aa wl14 ⟨k, hAwl14, cwl14, hb_b2, hm, hk, hall⟩
 refine (show cw Tryd.prog 38 _ _ _ wl14 from ?_) aa hAwl14
 clear hAwl14
 have zwl14 := cwl14.size
 refine sx_seq fun K15 k15 => sx_region ?_
 refine sp rfl (px_lt rfl rfl) ?_
 refine wl_nil (q_n (k15 _ _ ?_))
 refine sx_seq fun K16 k16 => ?_
 refine sx_condP rfl (fun h24 => ?_) (fun h24 => ?_)
 ·
  refine sx_skip ?_
  refine q_n (k16 _ _ ?_)
  refine sx_seq fun K17 k17 => ?_
  refine sx_block ?_
  refine sx_seq fun K18 k18 => sx_region ?_
  refine mv rfl rfl ?_
  have f19 := f10.chg cwl14 (by omega)
  refine sp rfl (px_indexK (j := k) rfl rfl (by omega) Tryd.underlying34 Tryd.sizeOf44 f19.sv (by omega)) ?_
  refine sp rfl (px_load rfl (f19.sv.loadA (rt_look f19.len (by omega)) Tryd.isAgg44 Tryd.sizeOf44)) ?_
  refine sx_alloc [.string (⟨#[]⟩), .string (⟨#[]⟩), .bool false, (.slice none 0 0), .int .i64 0] rfl Tryd.zeroValue44 rfl (fun b20 w21 eb20 sb20 fb20 cb20 => ?_)
  have zw21 := cb20.size
  refine av rfl rfl ?_
  have f23 := (f19.nest k (by omega)).ext cb20
  refine sx_store (vs := [.string ((ts.getD k rt0).1), .string ((ts.getD k rt0).2.1), .bool ((ts.getD k rt0).2.2.1), (vvt.getD k vz), .int .i64 ((ts.getD k rt0).2.2.2.2)]) rfl rfl fb20 rfl Tryd.sizeOf44 (nbl rfl) (one_cons rfl (one_cons rfl (one_cons rfl (one_cons f23.one (o1 rfl))))) (fun w22 sw22 fw22 cw22 => ?_)
  have zw22 := cw22.size
  have gw22 : Blk w22 b20 [.string ((ts.getD k rt0).1), .string ((ts.getD k rt0).2.1), .bool ((ts.getD k rt0).2.2.1), (vvt.getD k vz), .int .i64 ((ts.getD k rt0).2.2.2.2)] 44 := fw22
  refine wl_nil (q_n (k18 _ _ ?_))
  refine sx_seq fun K24 k24 => sx_region ?_
  refine sp rfl (px_load rfl (gw22.loadA (vs := [.string ((ts.getD k rt0).1), .string ((ts.getD k rt0).2.1), .bool ((ts.getD k rt0).2.2.1), (vvt.getD k vz), .int .i64 ((ts.getD k rt0).2.2.2.2)]) (look_lit rfl) Tryd.isAgg44 Tryd.sizeOf44)) ?_
  have f25 := f23.chg cw22 (by omega)
  refine sx_call rfl rfl Tryd.call30 (c_sRateOk f25 (hz k (by omega))) (fun v26 w26 p26 => ?_)
  obtain ⟨rfl, c26⟩ := p26
  have zw26 := c26.size
  refine sp rfl (px_notP rfl) ?_
  refine mv rfl rfl ?_
  refine sx_tmpP (t := 26) rfl (fun h25 => ?_) (fun h25 => ?_)
  ·
   refine sx_guardF rfl rfl rfl rfl rfl rfl ?_
   refine sx_guardF rfl rfl rfl rfl rfl rfl ?_
   refine sx_guardF rfl rfl rfl rfl rfl rfl ?_
   refine sx_guardF rfl rfl rfl rfl rfl rfl ?_
   refine sx_guardF rfl rfl rfl rfl rfl rfl ?_
   refine sx_guardF rfl rfl rfl rfl rfl rfl ?_
   refine sx_guardF rfl rfl rfl rfl rfl rfl ?_
   refine sx_guardF rfl rfl rfl rfl rfl rfl ?_
   refine sx_guardF rfl rfl rfl rfl rfl rfl ?_
   refine sp rfl (px_pick rfl rfl) ?_
   refine wl_nil (q_n (k24 _ _ ?_))
   refine sx_sub (Sub.c 1 rfl (.c 16 rfl (.c 17 rfl (.c 18 rfl (.c 36 rfl .nil))))) ?_
   refine sx_condT rfl ?_
   refine sx_seq fun K27 k27 => sx_region ?_
   refine av rfl rfl (wl_nil (q_n (k27 _ _ ?_)))
   refine sx_retc ?_
   refine q_br (q_r (q_r (q_br (q_r (sx_ret1 Tryd.results29 rfl ?_)))))
   have q28 := Chg.step (l := 0) (h := 0) (Chg.zero (l := 0) (h := 0) (cb2.t c6)) cwl14 (by omega)
   have q29 := Chg.step (l := 0) (h := 0) q28 cb20 (by omega)
   have q30 := Chg.step (l := 0) (h := 0) q29 cw22 (by omega)
   have q31 := Chg.step (l := 0) (h := 0) q30 c26 (by omega)
   exact ⟨(by first | exact bFalse (rsok_no_rate (k := k) (by omega) h25) | exact bFalse (rsok_no_key (k := k) (by omega) (fun hh => h25x1 ((atI_self (by omega)).2 hh)))), q31⟩
  refine sx_guardT rfl rfl rfl ?_
  refine sp rfl (px_field rfl xfld36x1) ?_
  refine sx_guardT rfl rfl rfl ?_
  have f32 := hb_b2.ext cb20
  have f33 := f32.chg cw22 (by omega)
  have f34 := f33.ext c26
  refine sp rfl (px_load rfl (f34.load1 rfl Tryd.isAgg34)) ?_
  refine sx_guardT rfl rfl rfl ?_
  refine sp rfl (px_field rfl xfld44x0) ?_
  refine sx_guardT rfl rfl rfl ?_
  have f35 := gw22.ext c26
  refine sp rfl (px_load rfl (f35.load1 rfl Tryd.isAgg9)) ?_
  refine sx_guardT rfl rfl rfl ?_
  refine sp rfl (px_field rfl xfld44x1) ?_
  refine sx_guardT rfl rfl rfl ?_
  refine sp rfl (px_load rfl (f35.load1 rfl Tryd.isAgg9)) ?_
  refine sx_guardT rfl rfl rfl ?_
  have f36 := f19.ext cb20
  have f37 := f36.chg cw22 (by omega)
  have f38 := f37.ext c26
  refine sx_call rfl rfl Tryd.call32 (c_l10At f38 (by omega)) (fun v39 w39 p39 => ?_)
  obtain ⟨rfl, c39⟩ := p39
  have zw39 := c39.size
  refine sx_guardT rfl rfl rfl ?_
  refine mv rfl rfl ?_
  refine sx_guardT rfl rfl rfl ?_
  refine sp rfl (px_ne rfl rfl) ?_
  refine sp rfl (px_pick rfl rfl) ?_
  refine wl_nil (q_n (k24 _ _ ?_))
  refine sx_sub (Sub.c 1 rfl (.c 16 rfl (.c 17 rfl (.c 18 rfl (.c 36 rfl .nil))))) ?_
  refine sx_condP rfl (fun h25x1 => ?_) (fun h25x1 => ?_)
  ·
   refine sx_seq fun K40 k40 => sx_region ?_
   refine av rfl rfl (wl_nil (q_n (k40 _ _ ?_)))
   refine sx_retc ?_
   refine q_br (q_r (q_r (q_br (q_r (sx_ret1 Tryd.results29 rfl ?_)))))
   have q41 := Chg.step (l := 0) (h := 0) (Chg.zero (l := 0) (h := 0) (cb2.t c6)) cwl14 (by omega)
   have q42 := Chg.step (l := 0) (h := 0) q41 cb20 (by omega)
   have q43 := Chg.step (l := 0) (h := 0) q42 cw22 (by omega)
   have q44 := Chg.step (l := 0) (h := 0) q43 (c26.t c39) (by omega)
   exact ⟨(by first | exact bFalse (rsok_no_rate (k := k) (by omega) h25) | exact bFalse (rsok_no_key (k := k) (by omega) (fun hh => h25x1 ((atI_self (by omega)).2 hh)))), q44⟩
  refine sx_skip ?_
  refine q_bn (q_n (k17 _ _ ?_))
  refine sx_region ?_
  refine sp rfl (px_add rfl rfl (by omega)) ?_
  refine mv rfl rfl (wl_nil ?_)
  have q45 := Chg.step (l := b2) (h := (b2 + 1)) cwl14 cb20 (by omega)
  have q46 := Chg.step (l := b2) (h := (b2 + 1)) q45 cw22 (by omega)
  have q47 := Chg.step (l := b2) (h := (b2 + 1)) q46 (c26.t c39) (by omega)
  have f48 := f34.ext c39
  exact fun a ha => ⟨_, by omega, (k + 1), ha.sub (Sub.c 1 rfl (.c 16 rfl (.c 17 rfl (.c 18 (look_int (t := 18) rfl (by first | omega | simp)) .nil)))), q47, f48, rfl, by omega, AllTo_succ hall (Decidable.not_not.1 h25) ((atI_self (by omega)).1 (Decidable.not_not.1 h25x1))⟩
 refine sx_exit ?_
 refine q_e (q_e (q_bx (q_n (k12 _ _ ?_))))
 refine sx_seq fun K49 k49 => sx_region ?_
 refine av rfl rfl (wl_nil (q_n (k49 _ _ ?_)))
 refine sx_retc ?_
 refine sx_ret1 Tryd.results29 rfl ?_
 have ek : k = ts.length := by omega
 subst ek
 have q50 := Chg.step (l := 0) (h := 0) (Chg.zero (l := 0) (h := 0) (cb2.t c6)) cwl14 (by omega)
 exact ⟨bTrue ⟨Decidable.not_not.1 h21, by omega, hall⟩, q50⟩

theorem c_l02Trim {w : World} {va : Value} {lva uva : Nat} {zs : List Int} (hva : OwnI w lva uva va intT (zs)) (hz : Lm zs) (h63 : zs.length ≤ 1000000) :
  Ret Tryd.prog 116 [va] w fun v w' => ∃ s, v = s ∧ OwnI w' (lva) (uva) s intT (dg (vl zs)) ∧ Chg 0 0 w w' := by
 refine sx_enter Tryd.func116 rfl Tryd.ntmps116 (nbl rfl) ?_
 refine sx_seq fun K1 k1 => sx_region ?_
 refine av rfl rfl (wl_nil (q_n (k1 _ _ ?_)))
 refine sx_seq fun K2 k2 => sx_region ?_
 refine mv rfl rfl (sp rfl (px_len rfl Tryd.underlying25 hva.sv) ?_)
 refine av rfl rfl (wl_nil (q_n (k2 _ _ ?_)))
 refine sx_seq fun K3 k3 => ?_
 refine sx_block ?_
 refine sx_loop (fun mm aa w' => ∃ (k : Nat), Agr 21 [(0, va), (3, .int .i64 ↑k)] aa ∧ Chg 0 0 w w' ∧ (mm = k) ∧ (k ≤ zs.length) ∧ (vl (zs.take k) = vl zs)) (_) (fun a ha => ⟨zs.length, ha.sub (Sub.c 0 rfl (.c 3 (look_int (t := 3) rfl (by first | omega | simp)) .nil)), Chg.refl _ _ _, rfl, by omega, vl_take_all zs⟩) ?_
 rintro mm aa wl4 ⟨k, hAwl4, cwl4, hm, hk, hv⟩
 refine (show cw Tryd.prog 21 _ _ _ wl4 from ?_) aa hAwl4
 clear hAwl4
 have zwl4 := cwl4.size
 refine sx_seq fun K5 k5 => ?_
 refine sx_seq fun K6 k6 => sx_region ?_
 refine mv rfl rfl (sp rfl (px_gt rfl rfl) ?_)
 refine mv rfl rfl ?_
 refine sx_tmpP (t := 8) rfl (fun h17 => ?_) (fun h17 => ?_)
 ·
  refine sx_guardT rfl rfl rfl ?_
  refine mv rfl rfl ?_
  refine sx_guardT rfl rfl rfl ?_
  refine mv rfl rfl ?_
  refine sx_guardT rfl rfl rfl ?_
  refine sp rfl (px_sub rfl rfl (by omega)) ?_
  refine sx_guardT rfl rfl rfl ?_
  have f7 := hva.ext cwl4
  refine sp rfl (px_index1 (j := (k - 1)) rfl rfl (by omega) Tryd.underlying25 Tryd.sizeOf3 f7.sv (by omega)) ?_
  refine sx_guardT rfl rfl rfl ?_
  refine sp rfl (px_load rfl (f7.sv.load1 (at_int (by omega)) Tryd.isAgg3)) ?_
  refine sx_guardT rfl rfl rfl ?_
  refine sp rfl (px_eq rfl rfl) ?_
  refine sp rfl (px_pick rfl rfl) ?_
  refine wl_nil (q_n (k6 _ _ ?_))
  refine sx_condP rfl (fun h17x1 => ?_) (fun h17x1 => ?_)
  ·
   refine sx_skip ?_
   refine q_n (k5 _ _ ?_)
   refine sx_block ?_
   refine sx_region ?_
   refine mv rfl rfl (sp rfl (px_sub rfl rfl (by omega)) ?_)
   refine av rfl rfl (wl_nil ?_)
   exact q_bn (fun a ha => ⟨_, by omega, (k - 1), ha.sub (Sub.c 0 rfl (.c 3 (look_int (t := 3) rfl (by first | omega | simp)) .nil)), cwl4, rfl, by omega, trim_step (by omega) hk (by rw [getD_take (by omega)]; exact h17x1) hv⟩)
  refine sx_exit ?_
  refine q_e (q_e (q_bx (q_n (k3 _ _ ?_))))
  refine sx_seq fun K8 k8 => sx_region ?_
  refine mv rfl rfl (mv rfl rfl (sp rfl (px_sliceTo (h := k) rfl rfl (by omega) Tryd.underlying25 Tryd.sizeOf3 f7.sv (by omega)) ?_))
  refine av rfl rfl (wl_nil (q_n (k8 _ _ ?_)))
  refine sx_sub (Sub.c 2 rfl .nil) ?_
  refine sx_retc ?_
  refine sx_ret1 Tryd.results116 rfl ?_
  have hd := trim_done hz hk hv (by first | exact .inl (by omega) | exact .inr (by rw [getD_take (by omega)]; assumption))
  rw [← hd]
  exact ⟨_, rfl, (Own.takeI f7 (h := k) (by omega)), cwl4⟩
 refine sx_guardF rfl rfl rfl rfl rfl rfl ?_
 refine sx_guardF rfl rfl rfl rfl rfl rfl ?_
 refine sx_guardF rfl rfl rfl rfl rfl rfl ?_
 refine sx_guardF rfl rfl rfl rfl rfl rfl ?_
 refine sx_guardF rfl rfl rfl rfl rfl rfl ?_
 refine sx_guardF rfl rfl rfl rfl rfl rfl ?_
 refine sp rfl (px_pick rfl rfl) ?_
 refine wl_nil (q_n (k6 _ _ ?_))
 refine sx_condF rfl ?_
 refine sx_exit ?_
 refine q_e (q_e (q_bx (q_n (k3 _ _ ?_))))
 refine sx_seq fun K9 k9 => sx_region ?_
 refine mv rfl rfl (mv rfl rfl ?_)
 have f10 := hva.ext cwl4
 refine sp rfl (px_sliceTo (h := k) rfl rfl (by omega) Tryd.underlying25 Tryd.sizeOf3 f10.sv (by omega)) ?_
 refine av rfl rfl (wl_nil (q_n (k9 _ _ ?_)))
 refine sx_sub (Sub.c 2 rfl .nil) ?_
 refine sx_retc ?_
 refine sx_ret1 Tryd.results116 rfl ?_
 have hd := trim_done hz hk hv (by first | exact .inl (by omega) | exact .inr (by rw [getD_take (by omega)]; assumption))
 rw [← hd]
 exact ⟨_, rfl, (Own.takeI f10 (h := k) (by omega)), cwl4⟩

theorem c_l02TrimS {w : World} {va : Value} {lva uva : Nat} {zs : List Int} (hva : Sl w lva uva va (zs)) (hz : Lm zs) (h63 : zs.length ≤ 1000000) :
  Ret Tryd.prog 116 [va] w fun v w' => ∃ s, v = s ∧ Sl w' (lva) (uva) s (dg (vl zs)) ∧ Chg 0 0 w w' := by
 refine sx_enter Tryd.func116 rfl Tryd.ntmps116 (nbl rfl) ?_
 refine sx_seq fun K1 k1 => sx_region ?_
 refine av rfl rfl (wl_nil (q_n (k1 _ _ ?_)))
 refine sx_seq fun K2 k2 => sx_region ?_
 refine mv rfl rfl (sp rfl (px_len rfl Tryd.underlying25 hva) ?_)
 refine av rfl rfl (wl_nil (q_n (k2 _ _ ?_)))
 refine sx_seq fun K3 k3 => ?_
 refine sx_block ?_
 refine sx_loop (fun mm aa w' => ∃ (k : Nat), Agr 21 [(0, va), (3, .int .i64 ↑k)] aa ∧ Chg 0 0 w w' ∧ (mm = k) ∧ (k ≤ zs.length) ∧ (vl (zs.take k) = vl zs)) (_) (fun a ha => ⟨zs.length, ha.sub (Sub.c 0 rfl (.c 3 (look_int (t := 3) rfl (by first | omega | simp)) .nil)), Chg.refl _ _ _, rfl, by omega, vl_take_all zs⟩) ?_
 rintro mm aa wl4 ⟨k, hAwl4, cwl4, hm, hk, hv⟩
 refine (show cw Tryd.prog 21 _ _ _ wl4 from ?_) aa hAwl4
 clear hAwl4
 have zwl4 := cwl4.size
 refine sx_seq fun K5 k5 => ?_
 refine sx_seq fun K6 k6 => sx_region ?_
 refine mv rfl rfl (sp rfl (px_gt rfl rfl) ?_)
 refine mv rfl rfl ?_
 refine sx_tmpP (t := 8) rfl (fun h17 => ?_) (fun h17 => ?_)
 ·
  refine sx_guardT rfl rfl rfl ?_
  refine mv rfl rfl ?_
  refine sx_guardT rfl rfl rfl ?_
  refine mv rfl rfl ?_
  refine sx_guardT rfl rfl rfl ?_
  refine sp rfl (px_sub rfl rfl (by omega)) ?_
  refine sx_guardT rfl rfl rfl ?_
  have f7 := hva.ext cwl4
  refine sp rfl (px_index1 (j := (k - 1)) rfl rfl (by omega) Tryd.underlying25 Tryd.sizeOf3 f7 (by omega)) ?_
  refine sx_guardT rfl rfl rfl ?_
  refine sp rfl (px_load rfl (f7.load1 (at_int (by omega)) Tryd.isAgg3)) ?_
  refine sx_guardT rfl rfl rfl ?_
  refine sp rfl (px_eq rfl rfl) ?_
  refine sp rfl (px_pick rfl rfl) ?_
  refine wl_nil (q_n (k6 _ _ ?_))
  refine sx_condP rfl (fun h17x1 => ?_) (fun h17x1 => ?_)
  ·
   refine sx_skip ?_
   refine q_n (k5 _ _ ?_)
   refine sx_block ?_
   refine sx_region ?_
   refine mv rfl rfl (sp rfl (px_sub rfl rfl (by omega)) ?_)
   refine av rfl rfl (wl_nil ?_)
   exact q_bn (fun a ha => ⟨_, by omega, (k - 1), ha.sub (Sub.c 0 rfl (.c 3 (look_int (t := 3) rfl (by first | omega | simp)) .nil)), cwl4, rfl, by omega, trim_step (by omega) hk (by rw [getD_take (by omega)]; exact h17x1) hv⟩)
  refine sx_exit ?_
  refine q_e (q_e (q_bx (q_n (k3 _ _ ?_))))
  refine sx_seq fun K8 k8 => sx_region ?_
  refine mv rfl rfl (mv rfl rfl (sp rfl (px_sliceTo (h := k) rfl rfl (by omega) Tryd.underlying25 Tryd.sizeOf3 f7 (by omega)) ?_))
  refine av rfl rfl (wl_nil (q_n (k8 _ _ ?_)))
  refine sx_sub (Sub.c 2 rfl .nil) ?_
  refine sx_retc ?_
  refine sx_ret1 Tryd.results116 rfl ?_
  have hd := trim_done hz hk hv (by first | exact .inl (by omega) | exact .inr (by rw [getD_take (by omega)]; assumption))
  rw [← hd]
  exact ⟨_, rfl, (Sv.takeI f7 (h := k) (by omega)), cwl4⟩
 refine sx_guardF rfl rfl rfl rfl rfl rfl ?_
 refine sx_guardF rfl rfl rfl rfl rfl rfl ?_
 refine sx_guardF rfl rfl rfl rfl rfl rfl ?_
 refine sx_guardF rfl rfl rfl rfl rfl rfl ?_
 refine sx_guardF rfl rfl rfl rfl rfl rfl ?_
 refine sx_guardF rfl rfl rfl rfl rfl rfl ?_
 refine sp rfl (px_pick rfl rfl) ?_
 refine wl_nil (q_n (k6 _ _ ?_))
 refine sx_condF rfl ?_
 refine sx_exit ?_
 refine q_e (q_e (q_bx (q_n (k3 _ _ ?_))))
 refine sx_seq fun K9 k9 => sx_region ?_
 refine mv rfl rfl (mv rfl rfl ?_)
 have f10 := hva.ext cwl4
 refine sp rfl (px_sliceTo (h := k) rfl rfl (by omega) Tryd.underlying25 Tryd.sizeOf3 f10 (by omega)) ?_
 refine av rfl rfl (wl_nil (q_n (k9 _ _ ?_)))
 refine sx_sub (Sub.c 2 rfl .nil) ?_
 refine sx_retc ?_
 refine sx_ret1 Tryd.results116 rfl ?_
 have hd := trim_done hz hk hv (by first | exact .inl (by omega) | exact .inr (by rw [getD_take (by omega)]; assumption))
 rw [← hd]
 exact ⟨_, rfl, (Sv.takeI f10 (h := k) (by omega)), cwl4⟩

theorem c_l02TrimD {w : World} {va : Value} {lva uva : Nat} {m : Nat} (hva : Sl w lva uva va (dg m)) (h63 : (dg m).length ≤ 1000000) :
  Ret Tryd.prog 116 [va] w fun v w' => ∃ s, v = s ∧ Sl w' (lva) (uva) s (dg m) ∧ Chg 0 0 w w' := by
 simpa only [vl_dg] using c_l02TrimS hva (Lm_dg m) h63

theorem c_l02Cap {w : World} {va : Value} {lva uva : Nat} {m : Nat} (hva : Sl w lva uva va (dg m)) (h63 : (dg m).length ≤ 1000000) :
  Ret Tryd.prog 98 [va] w fun v w' => ∃ s, v = s ∧ Sl w' (lva) (uva) s (dg (capN m)) ∧ Chg 0 0 w w' := by
 refine sx_enter Tryd.func98 rfl Tryd.ntmps98 (nbl rfl) ?_
 refine sx_seq fun K1 k1 => sx_region ?_
 refine av rfl rfl (wl_nil (q_n (k1 _ _ ?_)))
 refine sx_seq fun K2 k2 => sx_region ?_
 refine mv rfl rfl (sx_call rfl rfl Tryd.call116 (c_l02TrimD hva (by omega)) (fun v3 w3 p3 => ?_))
 obtain ⟨s3, rfl, os_3, c3⟩ := p3
 have zw3 := c3.size
 refine av rfl rfl (wl_nil (q_n (k2 _ _ ?_)))
 refine sx_seq fun K4 k4 => ?_
 refine sx_seq fun K5 k5 => sx_region ?_
 refine mv rfl rfl (sp rfl (px_len rfl Tryd.underlying25 os_3) ?_)
 refine sp rfl (px_gt rfl rfl) ?_
 refine wl_nil (q_n (k5 _ _ ?_))
 refine sx_condP rfl (fun h25 => ?_) (fun h25 => ?_)
 ·
  refine sx_seq fun K6 k6 => sx_region ?_
  refine av rfl rfl (wl_nil (q_n (k6 _ _ ?_)))
  refine sx_retc ?_
  refine q_r (sx_ret1 Tryd.results98 rfl ?_)
  rw [capN_no (by omega), dg_zero]
  exact ⟨_, rfl, Sv.nil _ _ _ _, c3⟩
 refine sx_skip ?_
 refine q_n (k4 _ _ ?_)
 refine sx_seq fun K7 k7 => sx_region ?_
 refine mv rfl rfl (av rfl rfl (wl_nil (q_n (k7 _ _ ?_))))
 refine sx_retc ?_
 refine sx_ret1 Tryd.results98 rfl ?_
 rw [capN_ok (by omega)]
 exact ⟨_, rfl, (Sv.mono os_3 (by omega) (by omega)), c3⟩

theorem c_l04Make {w : World} {n : Bool} {va : Value} {lva uva : Nat} {m : Nat} (hva : Sl w lva uva va (dg m)) (h63 : (dg m).length ≤ 1000000) :
  Ret Tryd.prog 68 [.bool n, va] w fun v w' => ∃ s, v = .agg #[.bool (ng (capI n m)), s] ∧ OwnI w' w.heap.size w'.heap.size s intT (dg (capI n m).natAbs) ∧ Chg 0 0 w w' := by
 have hva0 := hva.fit
 have hcap : (dg (capN m)).length ≤ 50 := by unfold capN; split; assumption; rw [dg_zero]; simp
 refine sx_enter Tryd.func68 rfl Tryd.ntmps68 (nbl rfl) ?_
 refine sx_seq fun K1 k1 => sx_region ?_
 refine sx_alloc [.bool false, (.slice none 0 0)] rfl Tryd.zeroValue40 rfl (fun b2 w3 eb2 sb2 fb2 cb2 => ?_)
 have zw3 := cb2.size
 refine wl_nil (q_n (k1 _ _ ?_))
 refine sx_seq fun K4 k4 => sx_region ?_
 refine mv rfl rfl ?_
 have f5 := hva0.ext cb2
 refine sx_call rfl rfl Tryd.call98 (c_l02Cap f5 (by omega)) (fun v6 w6 p6 => ?_)
 obtain ⟨s6, rfl, os_6, c6⟩ := p6
 have zw6 := c6.size
 refine av rfl rfl (wl_nil (q_n (k4 _ _ ?_)))
 refine sx_seq fun K7 k7 => sx_region ?_
 refine mv rfl rfl (mv rfl rfl ?_)
 refine sx_tmpB (t := 9) rfl (fun h10 => ?_) (fun h10 => ?_)
 ·
  refine sx_guardT rfl rfl rfl ?_
  refine mv rfl rfl ?_
  refine sx_guardT rfl rfl rfl ?_
  refine sp rfl (px_len rfl Tryd.underlying25 os_6) ?_
  refine sx_guardT rfl rfl rfl ?_
  refine sp rfl (px_gt rfl rfl) ?_
  refine sp rfl (px_pick rfl rfl) ?_
  refine sx_lit0 rfl xelt25 (fun s8 ws8 ss8 fs8 cs8 => ?_)
  have zws8 := cs8.size
  refine mv rfl rfl ?_
  have f10 := os_6.ext cs8
  refine sx_append rfl xelt25 rfl rfl fs8 f10 one_int (by omega) (by first | omega | (simp only [List.length_nil]; omega)) (by unfold maxLen; first | omega | (simp only [List.length_nil]; omega)) (fun a9 w9 fw9 cw9 => ?_)
  have nw9 := Own.norm (f := (Value.int .i64)) (zs := dg (capN m)) fw9
  have zw9 := cw9.size
  refine sp rfl (px_build rfl (xbld40x0x1 rfl nw9.one _)) ?_
  have f13 := (fb2.ext c6).ext cs8
  have f14 := f13.chg cw9 (by omega)
  refine sx_store (vs := [.bool (decide ((0 : Int) < ↑((dg (capN m)).length))), a9]) rfl rfl f14 rfl Tryd.sizeOf40 (nbl rfl) (one_cons rfl (one_cons nw9.one one_nil)) (fun w11 sw11 fw11 cw11 => ?_)
  have zw11 := cw11.size
  have gw11 : Blk w11 b2 [.bool (decide ((0 : Int) < ↑((dg (capN m)).length))), a9] 40 := fw11
  refine wl_nil (q_n (k7 _ _ ?_))
  refine sx_sub (Sub.c 4 rfl .nil) ?_
  refine sx_retc ?_
  refine sx_ret1 Tryd.results68 ⟨_, rfl, gw11.loadA (vs := [.bool (decide ((0 : Int) < ↑((dg (capN m)).length))), a9]) (look_lit rfl) Tryd.isAgg40 Tryd.sizeOf40⟩ ?_
  have hh := cap_sg n m
  rw [← hh.1, ← hh.2]
  have q15 := Chg.step (l := 0) (h := 0) (Chg.zero (l := 0) (h := 0) ((cb2.t c6).t cs8)) cw9 (by omega)
  have q16 := Chg.step (l := 0) (h := 0) q15 cw11 (by omega)
  have f17 := nw9.chg cw11 (by omega)
  exact ⟨_, by simp [nz, h10], (Own.mono f17 (by omega) (by omega)), q16⟩
 refine sx_guardF rfl rfl rfl rfl rfl rfl ?_
 refine sx_guardF rfl rfl rfl rfl rfl rfl ?_
 refine sx_guardF rfl rfl rfl rfl rfl rfl ?_
 refine sp rfl (px_pick rfl rfl) ?_
 refine sx_lit0 rfl xelt25 (fun s18 ws18 ss18 fs18 cs18 => ?_)
 have zws18 := cs18.size
 refine mv rfl rfl ?_
 have f20 := os_6.ext cs18
 refine sx_append rfl xelt25 rfl rfl fs18 f20 one_int (by omega) (by first | omega | (simp only [List.length_nil]; omega)) (by unfold maxLen; first | omega | (simp only [List.length_nil]; omega)) (fun a19 w19 fw19 cw19 => ?_)
 have nw19 := Own.norm (f := (Value.int .i64)) (zs := dg (capN m)) fw19
 have zw19 := cw19.size
 refine sp rfl (px_build rfl (xbld40x0x1 rfl nw19.one _)) ?_
 have f23 := (fb2.ext c6).ext cs18
 have f24 := f23.chg cw19 (by omega)
 refine sx_store (vs := [.bool false, a19]) rfl rfl f24 rfl Tryd.sizeOf40 (nbl rfl) (one_cons rfl (one_cons nw19.one one_nil)) (fun w21 sw21 fw21 cw21 => ?_)
 have zw21 := cw21.size
 have gw21 : Blk w21 b2 [.bool false, a19] 40 := fw21
 refine wl_nil (q_n (k7 _ _ ?_))
 refine sx_sub (Sub.c 4 rfl .nil) ?_
 refine sx_retc ?_
 refine sx_ret1 Tryd.results68 ⟨_, rfl, gw21.loadA (vs := [.bool false, a19]) (look_lit rfl) Tryd.isAgg40 Tryd.sizeOf40⟩ ?_
 have hh := cap_sg n m
 rw [← hh.1, ← hh.2]
 have q25 := Chg.step (l := 0) (h := 0) (Chg.zero (l := 0) (h := 0) ((cb2.t c6).t cs18)) cw19 (by omega)
 have q26 := Chg.step (l := 0) (h := 0) q25 cw21 (by omega)
 have f27 := nw19.chg cw21 (by omega)
 exact ⟨_, by simp [nz, h10], (Own.mono f27 (by omega) (by omega)), q26⟩

end Go.Proofs.YtlnemcbdbehehaaDoor
