/- Contracts of functions of the program: what each call returns, and that it changes nothing that was. Conditions: as each says. -/
import Derived.Test.YteaodpobfldpfaaDoorTy
import Derived.Test.YteaodpobfldpfaaDoorNat
import Derived.Test.YteaodpobfldpfaaDoorCur
set_option linter.unusedVariables false
set_option linter.unusedSimpArgs false
namespace Go.Proofs.YteaodpobfldpfaaDoor
open Go Go.RowKit
set_option maxRecDepth 100000
theorem c_l08Table {w : World} :
    Ret Tryd.prog 18 [] w fun v w' => ∃ sl, v = sl ∧ Own w' w.heap.size w'.heap.size sl 28 20 4 (crCells tabS) ∧ Chg 0 0 w w' := by
  refine sx_enter Tryd.func18 rfl Tryd.ntmps18 (Nat.le_of_ble_eq_true rfl) ?_
  refine sx_seq fun K1 k1 => ?_
  refine sx_region ?_
  refine sx_pure rfl rfl rfl (px_assign rfl) ?_
  refine wl_nil ?_
  refine q_n (k1 _ _ ?_)
  refine sx_seq fun K2 k2 => ?_
  refine sx_region ?_
  refine sx_pure rfl rfl rfl (px_build rfl (xbld28x0x1x2x3 rfl rfl rfl rfl _)) ?_
  refine sx_pure rfl rfl rfl (px_build rfl (xbld28x0x1x2x3 rfl rfl rfl rfl _)) ?_
  refine sx_pure rfl rfl rfl (px_build rfl (xbld28x0x1x2x3 rfl rfl rfl rfl _)) ?_
  refine sx_pure rfl rfl rfl (px_build rfl (xbld28x0x1x2x3 rfl rfl rfl rfl _)) ?_
  refine sx_pure rfl rfl rfl (px_build rfl (xbld28x0x1x2x3 rfl rfl rfl rfl _)) ?_
  refine sx_pure rfl rfl rfl (px_build rfl (xbld28x0x1x2x3 rfl rfl rfl rfl _)) ?_
  refine sx_pure rfl rfl rfl (px_build rfl (xbld28x0x1x2x3 rfl rfl rfl rfl _)) ?_
  refine sx_pure rfl rfl rfl (px_build rfl (xbld28x0x1x2x3 rfl rfl rfl rfl _)) ?_
  refine sx_pure rfl rfl rfl (px_build rfl (xbld28x0x1x2x3 rfl rfl rfl rfl _)) ?_
  refine sx_pure rfl rfl rfl (px_build rfl (xbld28x0x1x2x3 rfl rfl rfl rfl _)) ?_
  refine sx_pure rfl rfl rfl (px_build rfl (xbld28x0x1x2x3 rfl rfl rfl rfl _)) ?_
  refine sx_pure rfl rfl rfl (px_build rfl (xbld28x0x1x2x3 rfl rfl rfl rfl _)) ?_
  refine sx_pure rfl rfl rfl (px_build rfl (xbld28x0x1x2x3 rfl rfl rfl rfl _)) ?_
  refine sx_pure rfl rfl rfl (px_build rfl (xbld28x0x1x2x3 rfl rfl rfl rfl _)) ?_
  refine sx_pure rfl rfl rfl (px_build rfl (xbld28x0x1x2x3 rfl rfl rfl rfl _)) ?_
  refine sx_pure rfl rfl rfl (px_build rfl (xbld28x0x1x2x3 rfl rfl rfl rfl _)) ?_
  refine sx_pure rfl rfl rfl (px_build rfl (xbld28x0x1x2x3 rfl rfl rfl rfl _)) ?_
  refine sx_pure rfl rfl rfl (px_build rfl (xbld28x0x1x2x3 rfl rfl rfl rfl _)) ?_
  refine sx_pure rfl rfl rfl (px_build rfl (xbld28x0x1x2x3 rfl rfl rfl rfl _)) ?_
  refine sx_pure rfl rfl rfl (px_build rfl (xbld28x0x1x2x3 rfl rfl rfl rfl _)) ?_
  refine sx_litG (k := 4) (e := 28) (vs := crCells tabS) rfl rfl ⟨by decide, by decide⟩ (fun w => by kernel_rfl) (fun s3 ws3 ss3 fs3 cs3 => ?_)
  have zws3 := cs3.size
  refine sx_pure rfl rfl rfl (px_assign rfl) ?_
  refine wl_nil ?_
  refine q_n (k2 _ _ ?_)
  refine sx_sub (Sub.cons (t := 0) rfl (.nil)) ?_
  refine sx_retc ?_
  refine sx_ret1 Tryd.results18 rfl ?_
  exact ⟨_, rfl, fs3, cs3⟩

theorem c_iCurOf {w : World} {s : ByteArray} (hG0 : Glob w) :
    Ret Tryd.prog 9 [.string s] w fun v w' => v = .string (numOf s) ∧ Chg 0 0 w w' := by
  refine sx_enter Tryd.func9 rfl Tryd.ntmps9 (Nat.le_of_ble_eq_true rfl) ?_
  refine sx_seq fun K1 k1 => ?_
  refine sx_region ?_
  refine sx_pure rfl rfl rfl (px_assign rfl) ?_
  refine wl_nil ?_
  refine q_n (k1 _ _ ?_)
  refine sx_seq fun K2 k2 => ?_
  refine sx_seq fun K3 k3 => ?_
  refine sx_region ?_
  refine sx_pure rfl rfl rfl (px_load rfl (Glob.load hG0 Tryd.isAgg31 Tryd.sizeOf31)) ?_
  refine sx_pure rfl rfl rfl (px_move rfl) ?_
  refine wl_nil ?_
  refine q_n (k3 _ _ ?_)
  refine sx_block ?_
  refine sx_loop (fun mm aa w' => ∃ (k : Nat), Agr 16 [(0, .string s), (5, .agg (crCells tabI).toArray), (6, .int .i64 ↑k)] aa ∧ Chg 0 0 w w' ∧ (mm = 20 - k) ∧ (k ≤ 20) ∧ (∀ i, i < k → ¬ (tabI.getD i cr0).number = s)) (20) (fun a ha => ⟨0, ha.sub (Sub.cons (t := 0) rfl (.cons (t := 5) rfl (.cons (t := 6) (look_int (t := 6) rfl (by first | omega | simp)) (.nil)))), Chg.refl _ _ _, rfl, by omega, fun i h => by omega⟩) ?_
  rintro mm aa wl4 ⟨k, hAwl4, cwl4, hm, hk, hn⟩
  refine (show cw Tryd.prog 16 _ _ _ wl4 from ?_) aa hAwl4
  clear hAwl4
  have zwl4 := cwl4.size
  refine sx_seq fun K5 k5 => ?_
  refine sx_region ?_
  refine sx_pure rfl rfl rfl (px_lt rfl rfl) ?_
  refine wl_nil ?_
  refine q_n (k5 _ _ ?_)
  refine sx_seq fun K6 k6 => ?_
  refine sx_condP rfl (fun h73 => ?_) (fun h73 => ?_)
  ·
    refine sx_skip ?_
    refine q_n (k6 _ _ ?_)
    refine sx_seq fun K7 k7 => ?_
    refine sx_block ?_
    refine sx_seq fun K8 k8 => ?_
    refine sx_region ?_
    refine sx_pure rfl rfl rfl (px_indexCr (l := tabI) (j := k) rfl rfl (by omega) Tryd.underlying31 rfl Tryd.sizeOf30 Tryd.isAgg30 (by rw [show tabI.length = 20 from rfl]; omega)) ?_
    refine sx_alloc [.string (⟨#[]⟩), .string (⟨#[]⟩), .int .i64 0, .int .i64 0] rfl Tryd.zeroValue30 rfl (fun b9 w10 eb9 sb9 fb9 cb9 => ?_)
    have zw10 := cb9.size
    refine sx_store (vs := [.string ((tabI.getD k cr0).code), .string ((tabI.getD k cr0).number), .int .i64 ((tabI.getD k cr0).places), .int .i64 ((tabI.getD k cr0).cash)]) rfl rfl fb9 rfl Tryd.sizeOf30 (Nat.le_of_ble_eq_true rfl) (one_cons rfl (one_cons rfl (one_cons rfl (one_cons rfl one_nil)))) (fun w11 sw11 fw11 cw11 => ?_)
    have zw11 := cw11.size
    have gw11 : Blk w11 b9 [.string ((tabI.getD k cr0).code), .string ((tabI.getD k cr0).number), .int .i64 ((tabI.getD k cr0).places), .int .i64 ((tabI.getD k cr0).cash)] 30 := fw11
    refine wl_nil ?_
    refine q_n (k8 _ _ ?_)
    refine sx_seq fun K12 k12 => ?_
    refine sx_region ?_
    refine sx_pure rfl rfl rfl (px_field rfl xfld30x1) ?_
    refine sx_pure rfl rfl rfl (px_load rfl (gw11.load1 rfl Tryd.isAgg9)) ?_
    refine sx_pure rfl rfl rfl (px_move rfl) ?_
    refine sx_pure rfl rfl rfl (px_eqS rfl rfl) ?_
    refine wl_nil ?_
    refine q_n (k12 _ _ ?_)
    refine sx_condP rfl (fun h74 => ?_) (fun h74 => ?_)
    ·
      refine sx_seq fun K13 k13 => ?_
      refine sx_region ?_
      refine sx_pure rfl rfl rfl (px_field rfl xfld30x0) ?_
      refine sx_pure rfl rfl rfl (px_load rfl (gw11.load1 rfl Tryd.isAgg9)) ?_
      refine sx_pure rfl rfl rfl (px_assign rfl) ?_
      refine wl_nil ?_
      refine q_n (k13 _ _ ?_)
      refine sx_retc ?_
      refine q_br (q_r (q_r (q_br (q_r (sx_ret1 Tryd.results9 rfl ?_)))))
      have e : numOf s = (tabI.getD k cr0).code := by unfold numOf; rw [byNum_at (by rw [show tabI.length = 20 from rfl]; omega) hn h74]; rfl
      have q14 := Chg.step (l := 0) (h := 0) cwl4 cb9 (by omega)
      have q15 := Chg.step (l := 0) (h := 0) q14 cw11 (by omega)
      exact ⟨congrArg Value.string e.symm, q15⟩
    ·
      refine sx_skip ?_
      refine q_bn (q_n (k7 _ _ ?_))
      refine sx_region ?_
      refine sx_pure rfl rfl rfl (px_add rfl rfl (by omega)) ?_
      refine sx_pure rfl rfl rfl (px_move rfl) ?_
      refine wl_nil ?_
      have q16 := Chg.step (l := 0) (h := 0) cwl4 cb9 (by omega)
      have q17 := Chg.step (l := 0) (h := 0) q16 cw11 (by omega)
      exact fun a ha => ⟨_, by omega, (k + 1), ha.sub (Sub.cons (t := 0) rfl (.cons (t := 5) rfl (.cons (t := 6) (look_int (t := 6) rfl (by first | omega | simp)) (.nil)))), q17, rfl, by omega, upto_succ hn h74⟩
  ·
    refine sx_exit ?_
    refine q_e (q_e (q_bx (q_n (k2 _ _ ?_))))
    refine sx_seq fun K18 k18 => ?_
    refine sx_region ?_
    refine sx_pure rfl rfl rfl (px_assign rfl) ?_
    refine wl_nil ?_
    refine q_n (k18 _ _ ?_)
    refine sx_retc ?_
    refine sx_ret1 Tryd.results9 rfl ?_
    have e : numOf s = ⟨#[]⟩ := by unfold numOf; rw [byNum_none (fun i hi => hn i (by rw [show tabI.length = 20 from rfl] at hi; omega))]; rfl
    exact ⟨congrArg Value.string e.symm, cwl4⟩

theorem c_sCurOf {w : World} {s : ByteArray} :
    Ret Tryd.prog 8 [.string s] w fun v w' => v = .string (numOf s) ∧ Chg 0 0 w w' := by
  refine sx_enter Tryd.func8 rfl Tryd.ntmps8 (Nat.le_of_ble_eq_true rfl) ?_
  refine sx_seq fun K1 k1 => ?_
  refine sx_region ?_
  refine sx_pure rfl rfl rfl (px_assign rfl) ?_
  refine wl_nil ?_
  refine q_n (k1 _ _ ?_)
  refine sx_seq fun K2 k2 => ?_
  refine sx_seq fun K3 k3 => ?_
  refine sx_region ?_
  refine sx_call rfl rfl Tryd.call18 (c_l08Table) (fun v4 w4 p4 => ?_)
  obtain ⟨sl4, rfl, osl_4, c4⟩ := p4
  have zw4 := c4.size
  refine sx_pure rfl rfl rfl (px_len rfl Tryd.underlying25 osl_4.sv) ?_
  refine sx_pure rfl rfl rfl (px_move rfl) ?_
  refine wl_nil ?_
  refine q_n (k3 _ _ ?_)
  refine sx_block ?_
  refine sx_loop (fun mm aa w' => ∃ (k : Nat), Agr 18 [(0, .string s), (5, v4), (6, .int .i64 20), (7, .int .i64 ↑k)] aa ∧ Chg 0 0 w4 w' ∧ (mm = 20 - k) ∧ (k ≤ 20) ∧ (∀ i, i < k → ¬ (tabS.getD i cr0).number = s)) (20) (fun a ha => ⟨0, ha.sub (Sub.cons (t := 0) rfl (.cons (t := 5) rfl (.cons (t := 6) rfl (.cons (t := 7) (look_int (t := 7) rfl (by first | omega | simp)) (.nil))))), Chg.refl _ _ _, rfl, by omega, fun i h => by omega⟩) ?_
  rintro mm aa wl5 ⟨k, hAwl5, cwl5, hm, hk, hn⟩
  refine (show cw Tryd.prog 18 _ _ _ wl5 from ?_) aa hAwl5
  clear hAwl5
  have zwl5 := cwl5.size
  refine sx_seq fun K6 k6 => ?_
  refine sx_region ?_
  refine sx_pure rfl rfl rfl (px_lt rfl rfl) ?_
  refine wl_nil ?_
  refine q_n (k6 _ _ ?_)
  refine sx_seq fun K7 k7 => ?_
  refine sx_condP rfl (fun h46 => ?_) (fun h46 => ?_)
  ·
    refine sx_skip ?_
    refine q_n (k7 _ _ ?_)
    refine sx_seq fun K8 k8 => ?_
    refine sx_block ?_
    refine sx_seq fun K9 k9 => ?_
    refine sx_region ?_
    have f10 := osl_4.ext cwl5
    refine sx_pure rfl rfl rfl (px_indexK (j := k) rfl rfl (by omega) Tryd.underlying25 Tryd.sizeOf28 f10.sv (by omega)) ?_
    refine sx_pure rfl rfl rfl (px_load rfl (f10.sv.loadA (cr_look (l := tabS) (k := k) (by rw [show tabS.length = 20 from rfl]; omega)) Tryd.isAgg28 Tryd.sizeOf28)) ?_
    refine sx_alloc [.string (⟨#[]⟩), .string (⟨#[]⟩), .int .i64 0, .int .i64 0] rfl Tryd.zeroValue28 rfl (fun b11 w12 eb11 sb11 fb11 cb11 => ?_)
    have zw12 := cb11.size
    refine sx_store (vs := [.string ((tabS.getD k cr0).code), .string ((tabS.getD k cr0).number), .int .i64 ((tabS.getD k cr0).places), .int .i64 ((tabS.getD k cr0).cash)]) rfl rfl fb11 rfl Tryd.sizeOf28 (Nat.le_of_ble_eq_true rfl) (one_cons rfl (one_cons rfl (one_cons rfl (one_cons rfl one_nil)))) (fun w13 sw13 fw13 cw13 => ?_)
    have zw13 := cw13.size
    have gw13 : Blk w13 b11 [.string ((tabS.getD k cr0).code), .string ((tabS.getD k cr0).number), .int .i64 ((tabS.getD k cr0).places), .int .i64 ((tabS.getD k cr0).cash)] 28 := fw13
    refine wl_nil ?_
    refine q_n (k9 _ _ ?_)
    refine sx_seq fun K14 k14 => ?_
    refine sx_region ?_
    refine sx_pure rfl rfl rfl (px_field rfl xfld28x1) ?_
    refine sx_pure rfl rfl rfl (px_load rfl (gw13.load1 rfl Tryd.isAgg9)) ?_
    refine sx_pure rfl rfl rfl (px_move rfl) ?_
    refine sx_pure rfl rfl rfl (px_eqS rfl rfl) ?_
    refine wl_nil ?_
    refine q_n (k14 _ _ ?_)
    refine sx_condP rfl (fun h47 => ?_) (fun h47 => ?_)
    ·
      refine sx_seq fun K15 k15 => ?_
      refine sx_region ?_
      refine sx_pure rfl rfl rfl (px_field rfl xfld28x0) ?_
      refine sx_pure rfl rfl rfl (px_load rfl (gw13.load1 rfl Tryd.isAgg9)) ?_
      refine sx_pure rfl rfl rfl (px_assign rfl) ?_
      refine wl_nil ?_
      refine q_n (k15 _ _ ?_)
      refine sx_sub (Sub.cons (t := 0) rfl (.cons (t := 2) rfl (.cons (t := 5) rfl (.cons (t := 6) rfl (.cons (t := 7) rfl (.nil)))))) ?_
      refine sx_retc ?_
      refine q_br (q_r (q_r (q_br (q_r (sx_ret1 Tryd.results8 rfl ?_)))))
      have e : numOf s = (tabS.getD k cr0).code := by unfold numOf; rw [byNum_eq, byNum_at (by rw [show tabS.length = 20 from rfl]; omega) hn h47]; rfl
      have q16 := Chg.step (l := 0) (h := 0) c4 cwl5 (by omega)
      have q17 := Chg.step (l := 0) (h := 0) q16 cb11 (by omega)
      have q18 := Chg.step (l := 0) (h := 0) q17 cw13 (by omega)
      exact ⟨congrArg Value.string e.symm, q18⟩
    ·
      refine sx_skip ?_
      refine q_bn (q_n (k8 _ _ ?_))
      refine sx_region ?_
      refine sx_pure rfl rfl rfl (px_add rfl rfl (by omega)) ?_
      refine sx_pure rfl rfl rfl (px_move rfl) ?_
      refine wl_nil ?_
      have q19 := Chg.step (l := 0) (h := 0) cwl5 cb11 (by omega)
      have q20 := Chg.step (l := 0) (h := 0) q19 cw13 (by omega)
      exact fun a ha => ⟨_, by omega, (k + 1), ha.sub (Sub.cons (t := 0) rfl (.cons (t := 5) rfl (.cons (t := 6) rfl (.cons (t := 7) (look_int (t := 7) rfl (by first | omega | simp)) (.nil))))), q20, rfl, by omega, upto_succ hn h47⟩
  ·
    refine sx_exit ?_
    refine q_e (q_e (q_bx (q_n (k2 _ _ ?_))))
    refine sx_seq fun K21 k21 => ?_
    refine sx_region ?_
    refine sx_pure rfl rfl rfl (px_assign rfl) ?_
    refine wl_nil ?_
    refine q_n (k21 _ _ ?_)
    refine sx_retc ?_
    refine sx_ret1 Tryd.results8 rfl ?_
    have e : numOf s = ⟨#[]⟩ := by unfold numOf; rw [byNum_eq, byNum_none (fun i hi => hn i (by rw [show tabS.length = 20 from rfl] at hi; omega))]; rfl
    have q22 := Chg.step (l := 0) (h := 0) c4 cwl5 (by omega)
    exact ⟨congrArg Value.string e.symm, q22⟩

theorem c_currencyOf {w : World} {s : ByteArray} (hG0 : Glob w) :
    Ret Tryd.prog 20 [.string s] w fun v w' => v = .tuple #[.agg #[.string ((curOf s).code), .string ((curOf s).number), .int .i64 ((curOf s).places), .int .i64 ((curOf s).cash)], .bool (decide (Known s))] ∧ Chg 0 0 w w' := by
  refine sx_enter Tryd.func20 rfl Tryd.ntmps20 (Nat.le_of_ble_eq_true rfl) ?_
  refine sx_seq fun K1 k1 => ?_
  refine sx_region ?_
  refine sx_alloc [.string (⟨#[]⟩), .string (⟨#[]⟩), .int .i64 0, .int .i64 0] rfl Tryd.zeroValue30 rfl (fun b2 w3 eb2 sb2 fb2 cb2 => ?_)
  have zw3 := cb2.size
  refine sx_pure rfl rfl rfl (px_assign rfl) ?_
  refine wl_nil ?_
  refine q_n (k1 _ _ ?_)
  refine sx_seq fun K4 k4 => ?_
  refine sx_seq fun K5 k5 => ?_
  refine sx_region ?_
  have f6 := hG0.ext cb2
  refine sx_pure rfl rfl rfl (px_load rfl (Glob.load f6 Tryd.isAgg31 Tryd.sizeOf31)) ?_
  refine sx_pure rfl rfl rfl (px_move rfl) ?_
  refine wl_nil ?_
  refine q_n (k5 _ _ ?_)
  refine sx_block ?_
  refine sx_loop (fun mm aa w' => ∃ (k : Nat), Agr 17 [(0, .string s), (2, .pointer (some ⟨b2, 0, none⟩)), (6, .agg (crCells tabI).toArray), (7, .int .i64 ↑k)] aa ∧ Chg 0 0 w3 w' ∧ (mm = 20 - k) ∧ (k ≤ 20) ∧ (∀ i, i < k → ¬ (tabI.getD i cr0).code = s)) (20) (fun a ha => ⟨0, ha.sub (Sub.cons (t := 0) rfl (.cons (t := 2) rfl (.cons (t := 6) rfl (.cons (t := 7) (look_int (t := 7) rfl (by first | omega | simp)) (.nil))))), Chg.refl _ _ _, rfl, by omega, fun i h => by omega⟩) ?_
  rintro mm aa wl7 ⟨k, hAwl7, cwl7, hm, hk, hn⟩
  refine (show cw Tryd.prog 17 _ _ _ wl7 from ?_) aa hAwl7
  clear hAwl7
  have zwl7 := cwl7.size
  refine sx_seq fun K8 k8 => ?_
  refine sx_region ?_
  refine sx_pure rfl rfl rfl (px_lt rfl rfl) ?_
  refine wl_nil ?_
  refine q_n (k8 _ _ ?_)
  refine sx_seq fun K9 k9 => ?_
  refine sx_condP rfl (fun h39 => ?_) (fun h39 => ?_)
  ·
    refine sx_skip ?_
    refine q_n (k9 _ _ ?_)
    refine sx_seq fun K10 k10 => ?_
    refine sx_block ?_
    refine sx_seq fun K11 k11 => ?_
    refine sx_region ?_
    refine sx_pure rfl rfl rfl (px_indexCr (l := tabI) (j := k) rfl rfl (by omega) Tryd.underlying31 rfl Tryd.sizeOf30 Tryd.isAgg30 (by rw [show tabI.length = 20 from rfl]; omega)) ?_
    refine sx_alloc [.string (⟨#[]⟩), .string (⟨#[]⟩), .int .i64 0, .int .i64 0] rfl Tryd.zeroValue30 rfl (fun b12 w13 eb12 sb12 fb12 cb12 => ?_)
    have zw13 := cb12.size
    refine sx_store (vs := [.string ((tabI.getD k cr0).code), .string ((tabI.getD k cr0).number), .int .i64 ((tabI.getD k cr0).places), .int .i64 ((tabI.getD k cr0).cash)]) rfl rfl fb12 rfl Tryd.sizeOf30 (Nat.le_of_ble_eq_true rfl) (one_cons rfl (one_cons rfl (one_cons rfl (one_cons rfl one_nil)))) (fun w14 sw14 fw14 cw14 => ?_)
    have zw14 := cw14.size
    have gw14 : Blk w14 b12 [.string ((tabI.getD k cr0).code), .string ((tabI.getD k cr0).number), .int .i64 ((tabI.getD k cr0).places), .int .i64 ((tabI.getD k cr0).cash)] 30 := fw14
    refine wl_nil ?_
    refine q_n (k11 _ _ ?_)
    refine sx_seq fun K15 k15 => ?_
    refine sx_region ?_
    refine sx_pure rfl rfl rfl (px_field rfl xfld30x0) ?_
    refine sx_pure rfl rfl rfl (px_load rfl (gw14.load1 rfl Tryd.isAgg9)) ?_
    refine sx_pure rfl rfl rfl (px_move rfl) ?_
    refine sx_pure rfl rfl rfl (px_eqS rfl rfl) ?_
    refine wl_nil ?_
    refine q_n (k15 _ _ ?_)
    refine sx_condP rfl (fun h40 => ?_) (fun h40 => ?_)
    ·
      refine sx_seq fun K16 k16 => ?_
      refine sx_region ?_
      refine sx_pure rfl rfl rfl (px_load rfl (gw14.loadA (vs := [.string ((tabI.getD k cr0).code), .string ((tabI.getD k cr0).number), .int .i64 ((tabI.getD k cr0).places), .int .i64 ((tabI.getD k cr0).cash)]) (look_lit rfl) Tryd.isAgg30 Tryd.sizeOf30)) ?_
      have f18 := fb2.ext cwl7
      have f19 := f18.ext cb12
      have f20 := f19.chg cw14 (by omega)
      refine sx_store (vs := [.string ((tabI.getD k cr0).code), .string ((tabI.getD k cr0).number), .int .i64 ((tabI.getD k cr0).places), .int .i64 ((tabI.getD k cr0).cash)]) rfl rfl f20 rfl Tryd.sizeOf30 (Nat.le_of_ble_eq_true rfl) (one_cons rfl (one_cons rfl (one_cons rfl (one_cons rfl one_nil)))) (fun w17 sw17 fw17 cw17 => ?_)
      have zw17 := cw17.size
      have gw17 : Blk w17 b2 [.string ((tabI.getD k cr0).code), .string ((tabI.getD k cr0).number), .int .i64 ((tabI.getD k cr0).places), .int .i64 ((tabI.getD k cr0).cash)] 30 := fw17
      refine sx_pure rfl rfl rfl (px_assign rfl) ?_
      refine wl_nil ?_
      refine q_n (k16 _ _ ?_)
      refine sx_retc ?_
      refine q_br (q_r (q_r (q_br (q_r (sx_ret2 Tryd.results20 ⟨_, rfl, gw17.loadA (vs := [.string ((tabI.getD k cr0).code), .string ((tabI.getD k cr0).number), .int .i64 ((tabI.getD k cr0).places), .int .i64 ((tabI.getD k cr0).cash)]) (look_lit rfl) Tryd.isAgg30 Tryd.sizeOf30⟩ rfl ?_)))))
      have e := curOf_some (by rw [show tabI.length = 20 from rfl]; omega) hn h40
      have e2 := known_some (by rw [show tabI.length = 20 from rfl]; omega) hn h40
      rw [e]
      have q21 := Chg.step (l := 0) (h := 0) cb2 cwl7 (by omega)
      have q22 := Chg.step (l := 0) (h := 0) q21 cb12 (by omega)
      have q23 := Chg.step (l := 0) (h := 0) q22 cw14 (by omega)
      have q24 := Chg.step (l := 0) (h := 0) q23 cw17 (by omega)
      exact ⟨by simp [e2], q24⟩
    ·
      refine sx_skip ?_
      refine q_bn (q_n (k10 _ _ ?_))
      refine sx_region ?_
      refine sx_pure rfl rfl rfl (px_add rfl rfl (by omega)) ?_
      refine sx_pure rfl rfl rfl (px_move rfl) ?_
      refine wl_nil ?_
      have q25 := Chg.step (l := 0) (h := 0) cwl7 cb12 (by omega)
      have q26 := Chg.step (l := 0) (h := 0) q25 cw14 (by omega)
      exact fun a ha => ⟨_, by omega, (k + 1), ha.sub (Sub.cons (t := 0) rfl (.cons (t := 2) rfl (.cons (t := 6) rfl (.cons (t := 7) (look_int (t := 7) rfl (by first | omega | simp)) (.nil))))), q26, rfl, by omega, upto_succ hn h40⟩
  ·
    refine sx_exit ?_
    refine q_e (q_e (q_bx (q_n (k4 _ _ ?_))))
    refine sx_seq fun K27 k27 => ?_
    refine sx_region ?_
    refine sx_pure rfl rfl rfl (px_build rfl (xbld30x  _)) ?_
    have f29 := fb2.ext cwl7
    refine sx_store (vs := [.string (⟨#[]⟩), .string (⟨#[]⟩), .int .i64 0, .int .i64 0]) rfl rfl f29 rfl Tryd.sizeOf30 (Nat.le_of_ble_eq_true rfl) (one_cons rfl (one_cons rfl (one_cons rfl (one_cons rfl one_nil)))) (fun w28 sw28 fw28 cw28 => ?_)
    have zw28 := cw28.size
    have gw28 : Blk w28 b2 [.string (⟨#[]⟩), .string (⟨#[]⟩), .int .i64 0, .int .i64 0] 30 := fw28
    refine sx_pure rfl rfl rfl (px_assign rfl) ?_
    refine wl_nil ?_
    refine q_n (k27 _ _ ?_)
    refine sx_retc ?_
    refine sx_ret2 Tryd.results20 ⟨_, rfl, gw28.loadA (vs := [.string (⟨#[]⟩), .string (⟨#[]⟩), .int .i64 0, .int .i64 0]) (look_lit rfl) Tryd.isAgg30 Tryd.sizeOf30⟩ rfl ?_
    have e := curOf_none (s := s) (fun i hi => hn i (by rw [show tabI.length = 20 from rfl] at hi; omega))
    have e2 := known_none (s := s) (fun i hi => hn i (by rw [show tabI.length = 20 from rfl] at hi; omega))
    rw [e]
    have q30 := Chg.step (l := 0) (h := 0) cb2 cwl7 (by omega)
    have q31 := Chg.step (l := 0) (h := 0) q30 cw28 (by omega)
    exact ⟨by simp [e2, cr0], q31⟩

theorem c_l08Find {w : World} {s : ByteArray} :
    Ret Tryd.prog 19 [.string s] w fun v w' => v = .agg #[.string ((curOf s).code), .string ((curOf s).number), .int .i64 ((curOf s).places), .int .i64 ((curOf s).cash)] ∧ Chg 0 0 w w' := by
  refine sx_enter Tryd.func19 rfl Tryd.ntmps19 (Nat.le_of_ble_eq_true rfl) ?_
  refine sx_seq fun K1 k1 => ?_
  refine sx_region ?_
  refine sx_alloc [.string (⟨#[]⟩), .string (⟨#[]⟩), .int .i64 0, .int .i64 0] rfl Tryd.zeroValue28 rfl (fun b2 w3 eb2 sb2 fb2 cb2 => ?_)
  have zw3 := cb2.size
  refine wl_nil ?_
  refine q_n (k1 _ _ ?_)
  refine sx_seq fun K4 k4 => ?_
  refine sx_seq fun K5 k5 => ?_
  refine sx_region ?_
  refine sx_call rfl rfl Tryd.call18 (c_l08Table) (fun v6 w6 p6 => ?_)
  obtain ⟨sl6, rfl, osl_6, c6⟩ := p6
  have zw6 := c6.size
  refine sx_pure rfl rfl rfl (px_len rfl Tryd.underlying25 osl_6.sv) ?_
  refine sx_pure rfl rfl rfl (px_move rfl) ?_
  refine wl_nil ?_
  refine q_n (k5 _ _ ?_)
  refine sx_block ?_
  refine sx_loop (fun mm aa w' => ∃ (k : Nat), Agr 18 [(0, .string s), (2, .pointer (some ⟨b2, 0, none⟩)), (5, v6), (6, .int .i64 20), (7, .int .i64 ↑k)] aa ∧ Chg 0 0 w6 w' ∧ (mm = 20 - k) ∧ (k ≤ 20) ∧ (∀ i, i < k → ¬ (tabS.getD i cr0).code = s)) (20) (fun a ha => ⟨0, ha.sub (Sub.cons (t := 0) rfl (.cons (t := 2) rfl (.cons (t := 5) rfl (.cons (t := 6) rfl (.cons (t := 7) (look_int (t := 7) rfl (by first | omega | simp)) (.nil)))))), Chg.refl _ _ _, rfl, by omega, fun i h => by omega⟩) ?_
  rintro mm aa wl7 ⟨k, hAwl7, cwl7, hm, hk, hn⟩
  refine (show cw Tryd.prog 18 _ _ _ wl7 from ?_) aa hAwl7
  clear hAwl7
  have zwl7 := cwl7.size
  refine sx_seq fun K8 k8 => ?_
  refine sx_region ?_
  refine sx_pure rfl rfl rfl (px_lt rfl rfl) ?_
  refine wl_nil ?_
  refine q_n (k8 _ _ ?_)
  refine sx_seq fun K9 k9 => ?_
  refine sx_condP rfl (fun h24 => ?_) (fun h24 => ?_)
  ·
    refine sx_skip ?_
    refine q_n (k9 _ _ ?_)
    refine sx_seq fun K10 k10 => ?_
    refine sx_block ?_
    refine sx_seq fun K11 k11 => ?_
    refine sx_region ?_
    have f12 := osl_6.ext cwl7
    refine sx_pure rfl rfl rfl (px_indexK (j := k) rfl rfl (by omega) Tryd.underlying25 Tryd.sizeOf28 f12.sv (by omega)) ?_
    refine sx_pure rfl rfl rfl (px_load rfl (f12.sv.loadA (cr_look (l := tabS) (k := k) (by rw [show tabS.length = 20 from rfl]; omega)) Tryd.isAgg28 Tryd.sizeOf28)) ?_
    refine sx_alloc [.string (⟨#[]⟩), .string (⟨#[]⟩), .int .i64 0, .int .i64 0] rfl Tryd.zeroValue28 rfl (fun b13 w14 eb13 sb13 fb13 cb13 => ?_)
    have zw14 := cb13.size
    refine sx_store (vs := [.string ((tabS.getD k cr0).code), .string ((tabS.getD k cr0).number), .int .i64 ((tabS.getD k cr0).places), .int .i64 ((tabS.getD k cr0).cash)]) rfl rfl fb13 rfl Tryd.sizeOf28 (Nat.le_of_ble_eq_true rfl) (one_cons rfl (one_cons rfl (one_cons rfl (one_cons rfl one_nil)))) (fun w15 sw15 fw15 cw15 => ?_)
    have zw15 := cw15.size
    have gw15 : Blk w15 b13 [.string ((tabS.getD k cr0).code), .string ((tabS.getD k cr0).number), .int .i64 ((tabS.getD k cr0).places), .int .i64 ((tabS.getD k cr0).cash)] 28 := fw15
    refine wl_nil ?_
    refine q_n (k11 _ _ ?_)
    refine sx_seq fun K16 k16 => ?_
    refine sx_region ?_
    refine sx_pure rfl rfl rfl (px_field rfl xfld28x0) ?_
    refine sx_pure rfl rfl rfl (px_load rfl (gw15.load1 rfl Tryd.isAgg9)) ?_
    refine sx_pure rfl rfl rfl (px_move rfl) ?_
    refine sx_pure rfl rfl rfl (px_eqS rfl rfl) ?_
    refine wl_nil ?_
    refine q_n (k16 _ _ ?_)
    refine sx_condP rfl (fun h25 => ?_) (fun h25 => ?_)
    ·
      refine sx_seq fun K17 k17 => ?_
      refine sx_region ?_
      refine sx_pure rfl rfl rfl (px_load rfl (gw15.loadA (vs := [.string ((tabS.getD k cr0).code), .string ((tabS.getD k cr0).number), .int .i64 ((tabS.getD k cr0).places), .int .i64 ((tabS.getD k cr0).cash)]) (look_lit rfl) Tryd.isAgg28 Tryd.sizeOf28)) ?_
      have f19 := fb2.ext c6
      have f20 := f19.ext cwl7
      have f21 := f20.ext cb13
      have f22 := f21.chg cw15 (by omega)
      refine sx_store (vs := [.string ((tabS.getD k cr0).code), .string ((tabS.getD k cr0).number), .int .i64 ((tabS.getD k cr0).places), .int .i64 ((tabS.getD k cr0).cash)]) rfl rfl f22 rfl Tryd.sizeOf28 (Nat.le_of_ble_eq_true rfl) (one_cons rfl (one_cons rfl (one_cons rfl (one_cons rfl one_nil)))) (fun w18 sw18 fw18 cw18 => ?_)
      have zw18 := cw18.size
      have gw18 : Blk w18 b2 [.string ((tabS.getD k cr0).code), .string ((tabS.getD k cr0).number), .int .i64 ((tabS.getD k cr0).places), .int .i64 ((tabS.getD k cr0).cash)] 28 := fw18
      refine wl_nil ?_
      refine q_n (k17 _ _ ?_)
      refine sx_retc ?_
      refine q_br (q_r (q_r (q_br (q_r (sx_ret1 Tryd.results19 ⟨_, rfl, gw18.loadA (vs := [.string ((tabS.getD k cr0).code), .string ((tabS.getD k cr0).number), .int .i64 ((tabS.getD k cr0).places), .int .i64 ((tabS.getD k cr0).cash)]) (look_lit rfl) Tryd.isAgg28 Tryd.sizeOf28⟩ ?_)))))
      have e := curOf_someS (by rw [show tabS.length = 20 from rfl]; omega) hn h25
      rw [e]
      have q23 := Chg.step (l := 0) (h := 0) cb2 c6 (by omega)
      have q24 := Chg.step (l := 0) (h := 0) q23 cwl7 (by omega)
      have q25 := Chg.step (l := 0) (h := 0) q24 cb13 (by omega)
      have q26 := Chg.step (l := 0) (h := 0) q25 cw15 (by omega)
      have q27 := Chg.step (l := 0) (h := 0) q26 cw18 (by omega)
      exact ⟨rfl, q27⟩
    ·
      refine sx_skip ?_
      refine q_bn (q_n (k10 _ _ ?_))
      refine sx_region ?_
      refine sx_pure rfl rfl rfl (px_add rfl rfl (by omega)) ?_
      refine sx_pure rfl rfl rfl (px_move rfl) ?_
      refine wl_nil ?_
      have q28 := Chg.step (l := 0) (h := 0) cwl7 cb13 (by omega)
      have q29 := Chg.step (l := 0) (h := 0) q28 cw15 (by omega)
      exact fun a ha => ⟨_, by omega, (k + 1), ha.sub (Sub.cons (t := 0) rfl (.cons (t := 2) rfl (.cons (t := 5) rfl (.cons (t := 6) rfl (.cons (t := 7) (look_int (t := 7) rfl (by first | omega | simp)) (.nil)))))), q29, rfl, by omega, upto_succ hn h25⟩
  ·
    refine sx_exit ?_
    refine q_e (q_e (q_bx (q_n (k4 _ _ ?_))))
    refine sx_seq fun K30 k30 => ?_
    refine sx_region ?_
    refine sx_pure rfl rfl rfl (px_build rfl (xbld28x  _)) ?_
    have f32 := fb2.ext c6
    have f33 := f32.ext cwl7
    refine sx_store (vs := [.string (⟨#[]⟩), .string (⟨#[]⟩), .int .i64 0, .int .i64 0]) rfl rfl f33 rfl Tryd.sizeOf28 (Nat.le_of_ble_eq_true rfl) (one_cons rfl (one_cons rfl (one_cons rfl (one_cons rfl one_nil)))) (fun w31 sw31 fw31 cw31 => ?_)
    have zw31 := cw31.size
    have gw31 : Blk w31 b2 [.string (⟨#[]⟩), .string (⟨#[]⟩), .int .i64 0, .int .i64 0] 28 := fw31
    refine wl_nil ?_
    refine q_n (k30 _ _ ?_)
    refine sx_retc ?_
    refine sx_ret1 Tryd.results19 ⟨_, rfl, gw31.loadA (vs := [.string (⟨#[]⟩), .string (⟨#[]⟩), .int .i64 0, .int .i64 0]) (look_lit rfl) Tryd.isAgg28 Tryd.sizeOf28⟩ ?_
    have e := curOf_noneS (s := s) (fun i hi => hn i (by rw [show tabS.length = 20 from rfl] at hi; omega))
    rw [e]
    have q34 := Chg.step (l := 0) (h := 0) cb2 c6 (by omega)
    have q35 := Chg.step (l := 0) (h := 0) q34 cwl7 (by omega)
    have q36 := Chg.step (l := 0) (h := 0) q35 cw31 (by omega)
    exact ⟨rfl, q36⟩

theorem c_iCurKnown {w : World} {s : ByteArray} (hG0 : Glob w) :
    Ret Tryd.prog 13 [.string s] w fun v w' => v = .bool (decide (Known s)) ∧ Chg 0 0 w w' := by
  refine sx_enter Tryd.func13 rfl Tryd.ntmps13 (Nat.le_of_ble_eq_true rfl) ?_
  refine sx_seq fun K1 k1 => ?_
  refine sx_region ?_
  refine sx_pure rfl rfl rfl (px_assign rfl) ?_
  refine wl_nil ?_
  refine q_n (k1 _ _ ?_)
  refine sx_seq fun K2 k2 => ?_
  refine sx_region ?_
  refine sx_pure rfl rfl rfl (px_move rfl) ?_
  refine sx_call rfl rfl Tryd.call20 (c_currencyOf hG0) (fun v3 w3 p3 => ?_)
  obtain ⟨rfl, c3⟩ := p3
  have zw3 := c3.size
  refine sx_pure rfl rfl rfl (px_move rfl) ?_
  refine sx_pure rfl rfl rfl (px_extract (vs := [.agg #[.string ((curOf s).code), .string ((curOf s).number), .int .i64 ((curOf s).places), .int .i64 ((curOf s).cash)], .bool (decide (Known s))]) rfl rfl) ?_
  refine sx_pure rfl rfl rfl (px_extract (vs := [.agg #[.string ((curOf s).code), .string ((curOf s).number), .int .i64 ((curOf s).places), .int .i64 ((curOf s).cash)], .bool (decide (Known s))]) rfl rfl) ?_
  refine sx_alloc [.string (⟨#[]⟩), .string (⟨#[]⟩), .int .i64 0, .int .i64 0] rfl Tryd.zeroValue30 rfl (fun b4 w5 eb4 sb4 fb4 cb4 => ?_)
  have zw5 := cb4.size
  refine sx_store (vs := [.string ((curOf s).code), .string ((curOf s).number), .int .i64 ((curOf s).places), .int .i64 ((curOf s).cash)]) rfl rfl fb4 rfl Tryd.sizeOf30 (Nat.le_of_ble_eq_true rfl) (one_cons rfl (one_cons rfl (one_cons rfl (one_cons rfl one_nil)))) (fun w6 sw6 fw6 cw6 => ?_)
  have zw6 := cw6.size
  have gw6 : Blk w6 b4 [.string ((curOf s).code), .string ((curOf s).number), .int .i64 ((curOf s).places), .int .i64 ((curOf s).cash)] 30 := fw6
  refine sx_pure rfl rfl rfl (px_assign rfl) ?_
  refine wl_nil ?_
  refine q_n (k2 _ _ ?_)
  refine sx_seq fun K7 k7 => ?_
  refine sx_region ?_
  refine sx_pure rfl rfl rfl (px_move rfl) ?_
  refine sx_pure rfl rfl rfl (px_assign rfl) ?_
  refine wl_nil ?_
  refine q_n (k7 _ _ ?_)
  refine sx_retc ?_
  refine sx_ret1 Tryd.results13 rfl ?_
  have q8 := Chg.step (l := 0) (h := 0) c3 cb4 (by omega)
  have q9 := Chg.step (l := 0) (h := 0) q8 cw6 (by omega)
  exact ⟨rfl, q9⟩

theorem c_sCurKnown {w : World} {s : ByteArray} :
    Ret Tryd.prog 12 [.string s] w fun v w' => v = .bool (decide (Known s)) ∧ Chg 0 0 w w' := by
  refine sx_enter Tryd.func12 rfl Tryd.ntmps12 (Nat.le_of_ble_eq_true rfl) ?_
  refine sx_seq fun K1 k1 => ?_
  refine sx_region ?_
  refine sx_pure rfl rfl rfl (px_assign rfl) ?_
  refine wl_nil ?_
  refine q_n (k1 _ _ ?_)
  refine sx_seq fun K2 k2 => ?_
  refine sx_region ?_
  refine sx_pure rfl rfl rfl (px_move rfl) ?_
  refine sx_call rfl rfl Tryd.call19 (c_l08Find) (fun v3 w3 p3 => ?_)
  obtain ⟨rfl, c3⟩ := p3
  have zw3 := c3.size
  refine sx_pure rfl rfl rfl (px_fieldv rfl (xfv28x0 _)) ?_
  refine sx_pure rfl rfl rfl (px_neS rfl rfl) ?_
  refine sx_pure rfl rfl rfl (px_assign rfl) ?_
  refine wl_nil ?_
  refine q_n (k2 _ _ ?_)
  refine sx_retc ?_
  refine sx_ret1 Tryd.results12 rfl ?_
  exact ⟨bIff (known_iff s).symm, c3⟩

theorem c_iCurNumber {w : World} {s : ByteArray} (hG0 : Glob w) :
    Ret Tryd.prog 15 [.string s] w fun v w' => v = .string ((curOf s).number) ∧ Chg 0 0 w w' := by
  refine sx_enter Tryd.func15 rfl Tryd.ntmps15 (Nat.le_of_ble_eq_true rfl) ?_
  refine sx_seq fun K1 k1 => ?_
  refine sx_region ?_
  refine sx_pure rfl rfl rfl (px_assign rfl) ?_
  refine wl_nil ?_
  refine q_n (k1 _ _ ?_)
  refine sx_seq fun K2 k2 => ?_
  refine sx_region ?_
  refine sx_pure rfl rfl rfl (px_move rfl) ?_
  refine sx_call rfl rfl Tryd.call20 (c_currencyOf hG0) (fun v3 w3 p3 => ?_)
  obtain ⟨rfl, c3⟩ := p3
  have zw3 := c3.size
  refine sx_pure rfl rfl rfl (px_move rfl) ?_
  refine sx_pure rfl rfl rfl (px_extract (vs := [.agg #[.string ((curOf s).code), .string ((curOf s).number), .int .i64 ((curOf s).places), .int .i64 ((curOf s).cash)], .bool (decide (Known s))]) rfl rfl) ?_
  refine sx_pure rfl rfl rfl (px_extract (vs := [.agg #[.string ((curOf s).code), .string ((curOf s).number), .int .i64 ((curOf s).places), .int .i64 ((curOf s).cash)], .bool (decide (Known s))]) rfl rfl) ?_
  refine sx_alloc [.string (⟨#[]⟩), .string (⟨#[]⟩), .int .i64 0, .int .i64 0] rfl Tryd.zeroValue30 rfl (fun b4 w5 eb4 sb4 fb4 cb4 => ?_)
  have zw5 := cb4.size
  refine sx_store (vs := [.string ((curOf s).code), .string ((curOf s).number), .int .i64 ((curOf s).places), .int .i64 ((curOf s).cash)]) rfl rfl fb4 rfl Tryd.sizeOf30 (Nat.le_of_ble_eq_true rfl) (one_cons rfl (one_cons rfl (one_cons rfl (one_cons rfl one_nil)))) (fun w6 sw6 fw6 cw6 => ?_)
  have zw6 := cw6.size
  have gw6 : Blk w6 b4 [.string ((curOf s).code), .string ((curOf s).number), .int .i64 ((curOf s).places), .int .i64 ((curOf s).cash)] 30 := fw6
  refine sx_pure rfl rfl rfl (px_assign rfl) ?_
  refine wl_nil ?_
  refine q_n (k2 _ _ ?_)
  refine sx_seq fun K7 k7 => ?_
  refine sx_region ?_
  refine sx_pure rfl rfl rfl (px_field rfl xfld30x1) ?_
  refine sx_pure rfl rfl rfl (px_load rfl (gw6.load1 rfl Tryd.isAgg9)) ?_
  refine sx_pure rfl rfl rfl (px_assign rfl) ?_
  refine wl_nil ?_
  refine q_n (k7 _ _ ?_)
  refine sx_retc ?_
  refine sx_ret1 Tryd.results15 rfl ?_
  have q8 := Chg.step (l := 0) (h := 0) c3 cb4 (by omega)
  have q9 := Chg.step (l := 0) (h := 0) q8 cw6 (by omega)
  exact ⟨rfl, q9⟩

theorem c_sCurNumber {w : World} {s : ByteArray} :
    Ret Tryd.prog 14 [.string s] w fun v w' => v = .string ((curOf s).number) ∧ Chg 0 0 w w' := by
  refine sx_enter Tryd.func14 rfl Tryd.ntmps14 (Nat.le_of_ble_eq_true rfl) ?_
  refine sx_seq fun K1 k1 => ?_
  refine sx_region ?_
  refine sx_pure rfl rfl rfl (px_assign rfl) ?_
  refine wl_nil ?_
  refine q_n (k1 _ _ ?_)
  refine sx_seq fun K2 k2 => ?_
  refine sx_region ?_
  refine sx_pure rfl rfl rfl (px_move rfl) ?_
  refine sx_call rfl rfl Tryd.call19 (c_l08Find) (fun v3 w3 p3 => ?_)
  obtain ⟨rfl, c3⟩ := p3
  have zw3 := c3.size
  refine sx_pure rfl rfl rfl (px_fieldv rfl (xfv28x1 _)) ?_
  refine sx_pure rfl rfl rfl (px_assign rfl) ?_
  refine wl_nil ?_
  refine q_n (k2 _ _ ?_)
  refine sx_retc ?_
  refine sx_ret1 Tryd.results14 rfl ?_
  exact ⟨rfl, c3⟩

theorem c_iCurPlaces {w : World} {s : ByteArray} (hG0 : Glob w) :
    Ret Tryd.prog 17 [.string s] w fun v w' => v = .int .i64 ((curOf s).places) ∧ Chg 0 0 w w' := by
  refine sx_enter Tryd.func17 rfl Tryd.ntmps17 (Nat.le_of_ble_eq_true rfl) ?_
  refine sx_seq fun K1 k1 => ?_
  refine sx_region ?_
  refine sx_pure rfl rfl rfl (px_assign rfl) ?_
  refine wl_nil ?_
  refine q_n (k1 _ _ ?_)
  refine sx_seq fun K2 k2 => ?_
  refine sx_region ?_
  refine sx_pure rfl rfl rfl (px_move rfl) ?_
  refine sx_call rfl rfl Tryd.call20 (c_currencyOf hG0) (fun v3 w3 p3 => ?_)
  obtain ⟨rfl, c3⟩ := p3
  have zw3 := c3.size
  refine sx_pure rfl rfl rfl (px_move rfl) ?_
  refine sx_pure rfl rfl rfl (px_extract (vs := [.agg #[.string ((curOf s).code), .string ((curOf s).number), .int .i64 ((curOf s).places), .int .i64 ((curOf s).cash)], .bool (decide (Known s))]) rfl rfl) ?_
  refine sx_pure rfl rfl rfl (px_extract (vs := [.agg #[.string ((curOf s).code), .string ((curOf s).number), .int .i64 ((curOf s).places), .int .i64 ((curOf s).cash)], .bool (decide (Known s))]) rfl rfl) ?_
  refine sx_alloc [.string (⟨#[]⟩), .string (⟨#[]⟩), .int .i64 0, .int .i64 0] rfl Tryd.zeroValue30 rfl (fun b4 w5 eb4 sb4 fb4 cb4 => ?_)
  have zw5 := cb4.size
  refine sx_store (vs := [.string ((curOf s).code), .string ((curOf s).number), .int .i64 ((curOf s).places), .int .i64 ((curOf s).cash)]) rfl rfl fb4 rfl Tryd.sizeOf30 (Nat.le_of_ble_eq_true rfl) (one_cons rfl (one_cons rfl (one_cons rfl (one_cons rfl one_nil)))) (fun w6 sw6 fw6 cw6 => ?_)
  have zw6 := cw6.size
  have gw6 : Blk w6 b4 [.string ((curOf s).code), .string ((curOf s).number), .int .i64 ((curOf s).places), .int .i64 ((curOf s).cash)] 30 := fw6
  refine sx_pure rfl rfl rfl (px_assign rfl) ?_
  refine wl_nil ?_
  refine q_n (k2 _ _ ?_)
  refine sx_seq fun K7 k7 => ?_
  refine sx_region ?_
  refine sx_pure rfl rfl rfl (px_field rfl xfld30x2) ?_
  refine sx_pure rfl rfl rfl (px_load rfl (gw6.load1 rfl Tryd.isAgg3)) ?_
  refine sx_pure rfl rfl rfl (px_assign rfl) ?_
  refine wl_nil ?_
  refine q_n (k7 _ _ ?_)
  refine sx_retc ?_
  refine sx_ret1 Tryd.results17 rfl ?_
  have q8 := Chg.step (l := 0) (h := 0) c3 cb4 (by omega)
  have q9 := Chg.step (l := 0) (h := 0) q8 cw6 (by omega)
  exact ⟨rfl, q9⟩

theorem c_sCurPlaces {w : World} {s : ByteArray} :
    Ret Tryd.prog 16 [.string s] w fun v w' => v = .int .i64 ((curOf s).places) ∧ Chg 0 0 w w' := by
  refine sx_enter Tryd.func16 rfl Tryd.ntmps16 (Nat.le_of_ble_eq_true rfl) ?_
  refine sx_seq fun K1 k1 => ?_
  refine sx_region ?_
  refine sx_pure rfl rfl rfl (px_assign rfl) ?_
  refine wl_nil ?_
  refine q_n (k1 _ _ ?_)
  refine sx_seq fun K2 k2 => ?_
  refine sx_region ?_
  refine sx_pure rfl rfl rfl (px_move rfl) ?_
  refine sx_call rfl rfl Tryd.call19 (c_l08Find) (fun v3 w3 p3 => ?_)
  obtain ⟨rfl, c3⟩ := p3
  have zw3 := c3.size
  refine sx_pure rfl rfl rfl (px_fieldv rfl (xfv28x2 _)) ?_
  refine sx_pure rfl rfl rfl (px_assign rfl) ?_
  refine wl_nil ?_
  refine q_n (k2 _ _ ?_)
  refine sx_retc ?_
  refine sx_ret1 Tryd.results16 rfl ?_
  exact ⟨rfl, c3⟩

theorem c_iCurCash {w : World} {s : ByteArray} (hG0 : Glob w) :
    Ret Tryd.prog 11 [.string s] w fun v w' => v = .int .i64 ((curOf s).cash) ∧ Chg 0 0 w w' := by
  refine sx_enter Tryd.func11 rfl Tryd.ntmps11 (Nat.le_of_ble_eq_true rfl) ?_
  refine sx_seq fun K1 k1 => ?_
  refine sx_region ?_
  refine sx_pure rfl rfl rfl (px_assign rfl) ?_
  refine wl_nil ?_
  refine q_n (k1 _ _ ?_)
  refine sx_seq fun K2 k2 => ?_
  refine sx_region ?_
  refine sx_pure rfl rfl rfl (px_move rfl) ?_
  refine sx_call rfl rfl Tryd.call20 (c_currencyOf hG0) (fun v3 w3 p3 => ?_)
  obtain ⟨rfl, c3⟩ := p3
  have zw3 := c3.size
  refine sx_pure rfl rfl rfl (px_move rfl) ?_
  refine sx_pure rfl rfl rfl (px_extract (vs := [.agg #[.string ((curOf s).code), .string ((curOf s).number), .int .i64 ((curOf s).places), .int .i64 ((curOf s).cash)], .bool (decide (Known s))]) rfl rfl) ?_
  refine sx_pure rfl rfl rfl (px_extract (vs := [.agg #[.string ((curOf s).code), .string ((curOf s).number), .int .i64 ((curOf s).places), .int .i64 ((curOf s).cash)], .bool (decide (Known s))]) rfl rfl) ?_
  refine sx_alloc [.string (⟨#[]⟩), .string (⟨#[]⟩), .int .i64 0, .int .i64 0] rfl Tryd.zeroValue30 rfl (fun b4 w5 eb4 sb4 fb4 cb4 => ?_)
  have zw5 := cb4.size
  refine sx_store (vs := [.string ((curOf s).code), .string ((curOf s).number), .int .i64 ((curOf s).places), .int .i64 ((curOf s).cash)]) rfl rfl fb4 rfl Tryd.sizeOf30 (Nat.le_of_ble_eq_true rfl) (one_cons rfl (one_cons rfl (one_cons rfl (one_cons rfl one_nil)))) (fun w6 sw6 fw6 cw6 => ?_)
  have zw6 := cw6.size
  have gw6 : Blk w6 b4 [.string ((curOf s).code), .string ((curOf s).number), .int .i64 ((curOf s).places), .int .i64 ((curOf s).cash)] 30 := fw6
  refine sx_pure rfl rfl rfl (px_assign rfl) ?_
  refine wl_nil ?_
  refine q_n (k2 _ _ ?_)
  refine sx_seq fun K7 k7 => ?_
  refine sx_region ?_
  refine sx_pure rfl rfl rfl (px_field rfl xfld30x3) ?_
  refine sx_pure rfl rfl rfl (px_load rfl (gw6.load1 rfl Tryd.isAgg3)) ?_
  refine sx_pure rfl rfl rfl (px_assign rfl) ?_
  refine wl_nil ?_
  refine q_n (k7 _ _ ?_)
  refine sx_retc ?_
  refine sx_ret1 Tryd.results11 rfl ?_
  have q8 := Chg.step (l := 0) (h := 0) c3 cb4 (by omega)
  have q9 := Chg.step (l := 0) (h := 0) q8 cw6 (by omega)
  exact ⟨rfl, q9⟩

theorem c_sCurCash {w : World} {s : ByteArray} :
    Ret Tryd.prog 10 [.string s] w fun v w' => v = .int .i64 ((curOf s).cash) ∧ Chg 0 0 w w' := by
  refine sx_enter Tryd.func10 rfl Tryd.ntmps10 (Nat.le_of_ble_eq_true rfl) ?_
  refine sx_seq fun K1 k1 => ?_
  refine sx_region ?_
  refine sx_pure rfl rfl rfl (px_assign rfl) ?_
  refine wl_nil ?_
  refine q_n (k1 _ _ ?_)
  refine sx_seq fun K2 k2 => ?_
  refine sx_region ?_
  refine sx_pure rfl rfl rfl (px_move rfl) ?_
  refine sx_call rfl rfl Tryd.call19 (c_l08Find) (fun v3 w3 p3 => ?_)
  obtain ⟨rfl, c3⟩ := p3
  have zw3 := c3.size
  refine sx_pure rfl rfl rfl (px_fieldv rfl (xfv28x3 _)) ?_
  refine sx_pure rfl rfl rfl (px_assign rfl) ?_
  refine wl_nil ?_
  refine q_n (k2 _ _ ?_)
  refine sx_retc ?_
  refine sx_ret1 Tryd.results10 rfl ?_
  exact ⟨rfl, c3⟩

theorem law_CurOf {w : World} {s : ByteArray} (hG0 : Glob w) (h63 : s.size ≤ 9223372036854775807) :
    Ret Tryd.prog 3 [.string s] w fun v w' => v = .bool (true) ∧ Chg 0 0 w w' := by
  refine sx_enter Tryd.func3 rfl Tryd.ntmps3 (Nat.le_of_ble_eq_true rfl) ?_
  refine sx_seq fun K1 k1 => ?_
  refine sx_region ?_
  refine sx_pure rfl rfl rfl (px_assign rfl) ?_
  refine wl_nil ?_
  refine q_n (k1 _ _ ?_)
  refine sx_seq fun K2 k2 => ?_
  refine sx_seq fun K3 k3 => ?_
  refine sx_region ?_
  refine sx_pure rfl rfl rfl (px_move rfl) ?_
  refine sx_pure rfl rfl rfl (px_lenS rfl Tryd.underlying9) ?_
  refine sx_pure rfl rfl rfl (px_gt rfl rfl) ?_
  refine wl_nil ?_
  refine q_n (k3 _ _ ?_)
  refine sx_condP rfl (fun h4799 => ?_) (fun h4799 => ?_)
  ·
    refine sx_seq fun K4 k4 => ?_
    refine sx_region ?_
    refine sx_pure rfl rfl rfl (px_assign rfl) ?_
    refine wl_nil ?_
    refine q_n (k4 _ _ ?_)
    refine sx_retc ?_
    refine q_r (sx_ret1 Tryd.results3 rfl ?_)
    exact ⟨rfl, (Chg.refl 0 0 _)⟩
  ·
    refine sx_skip ?_
    refine q_n (k2 _ _ ?_)
    refine sx_seq fun K5 k5 => ?_
    refine sx_region ?_
    refine sx_pure rfl rfl rfl (px_move rfl) ?_
    refine sx_call rfl rfl Tryd.call8 (c_sCurOf) (fun v6 w6 p6 => ?_)
    obtain ⟨rfl, c6⟩ := p6
    have zw6 := c6.size
    refine sx_pure rfl rfl rfl (px_assign rfl) ?_
    refine wl_nil ?_
    refine q_n (k5 _ _ ?_)
    refine sx_seq fun K7 k7 => ?_
    refine sx_region ?_
    refine sx_pure rfl rfl rfl (px_move rfl) ?_
    have f8 := hG0.ext c6
    refine sx_call rfl rfl Tryd.call9 (c_iCurOf f8) (fun v9 w9 p9 => ?_)
    obtain ⟨rfl, c9⟩ := p9
    have zw9 := c9.size
    refine sx_pure rfl rfl rfl (px_assign rfl) ?_
    refine wl_nil ?_
    refine q_n (k7 _ _ ?_)
    refine sx_seq fun K10 k10 => ?_
    refine sx_seq fun K11 k11 => ?_
    refine sx_region ?_
    refine sx_pure rfl rfl rfl (px_move rfl) ?_
    refine sx_pure rfl rfl rfl (px_move rfl) ?_
    refine sx_pure rfl rfl rfl (px_neS rfl rfl) ?_
    refine wl_nil ?_
    refine q_n (k11 _ _ ?_)
    have h4804 : ¬ (numOf s ≠ numOf s) := by simp
    refine sx_condPF rfl h4804 ?_
    refine sx_skip ?_
    refine q_n (k10 _ _ ?_)
    refine sx_seq fun K12 k12 => ?_
    refine sx_region ?_
    refine sx_pure rfl rfl rfl (px_assign rfl) ?_
    refine wl_nil ?_
    refine q_n (k12 _ _ ?_)
    refine sx_retc ?_
    refine sx_ret1 Tryd.results3 rfl ?_
    have q13 := Chg.step (l := 0) (h := 0) c6 c9 (by omega)
    exact ⟨rfl, q13⟩

theorem law_CurCash {w : World} {s : ByteArray} (hG0 : Glob w) (h63 : s.size ≤ 9223372036854775807) :
    Ret Tryd.prog 4 [.string s] w fun v w' => v = .bool (true) ∧ Chg 0 0 w w' := by
  refine sx_enter Tryd.func4 rfl Tryd.ntmps4 (Nat.le_of_ble_eq_true rfl) ?_
  refine sx_seq fun K1 k1 => ?_
  refine sx_region ?_
  refine sx_pure rfl rfl rfl (px_assign rfl) ?_
  refine wl_nil ?_
  refine q_n (k1 _ _ ?_)
  refine sx_seq fun K2 k2 => ?_
  refine sx_seq fun K3 k3 => ?_
  refine sx_region ?_
  refine sx_pure rfl rfl rfl (px_move rfl) ?_
  refine sx_pure rfl rfl rfl (px_lenS rfl Tryd.underlying9) ?_
  refine sx_pure rfl rfl rfl (px_gt rfl rfl) ?_
  refine wl_nil ?_
  refine q_n (k3 _ _ ?_)
  refine sx_condP rfl (fun h4786 => ?_) (fun h4786 => ?_)
  ·
    refine sx_seq fun K4 k4 => ?_
    refine sx_region ?_
    refine sx_pure rfl rfl rfl (px_assign rfl) ?_
    refine wl_nil ?_
    refine q_n (k4 _ _ ?_)
    refine sx_retc ?_
    refine q_r (sx_ret1 Tryd.results4 rfl ?_)
    exact ⟨rfl, (Chg.refl 0 0 _)⟩
  ·
    refine sx_skip ?_
    refine q_n (k2 _ _ ?_)
    refine sx_seq fun K5 k5 => ?_
    refine sx_region ?_
    refine sx_pure rfl rfl rfl (px_move rfl) ?_
    refine sx_call rfl rfl Tryd.call10 (c_sCurCash) (fun v6 w6 p6 => ?_)
    obtain ⟨rfl, c6⟩ := p6
    have zw6 := c6.size
    refine sx_pure rfl rfl rfl (px_assign rfl) ?_
    refine wl_nil ?_
    refine q_n (k5 _ _ ?_)
    refine sx_seq fun K7 k7 => ?_
    refine sx_region ?_
    refine sx_pure rfl rfl rfl (px_move rfl) ?_
    have f8 := hG0.ext c6
    refine sx_call rfl rfl Tryd.call11 (c_iCurCash f8) (fun v9 w9 p9 => ?_)
    obtain ⟨rfl, c9⟩ := p9
    have zw9 := c9.size
    refine sx_pure rfl rfl rfl (px_assign rfl) ?_
    refine wl_nil ?_
    refine q_n (k7 _ _ ?_)
    refine sx_seq fun K10 k10 => ?_
    refine sx_seq fun K11 k11 => ?_
    refine sx_region ?_
    refine sx_pure rfl rfl rfl (px_move rfl) ?_
    refine sx_pure rfl rfl rfl (px_move rfl) ?_
    refine sx_pure rfl rfl rfl (px_ne rfl rfl) ?_
    refine wl_nil ?_
    refine q_n (k11 _ _ ?_)
    have h4791 : ¬ (((curOf s).cash : Int) ≠ (curOf s).cash) := by simp
    refine sx_condPF rfl h4791 ?_
    refine sx_skip ?_
    refine q_n (k10 _ _ ?_)
    refine sx_seq fun K12 k12 => ?_
    refine sx_region ?_
    refine sx_pure rfl rfl rfl (px_assign rfl) ?_
    refine wl_nil ?_
    refine q_n (k12 _ _ ?_)
    refine sx_retc ?_
    refine sx_ret1 Tryd.results4 rfl ?_
    have q13 := Chg.step (l := 0) (h := 0) c6 c9 (by omega)
    exact ⟨rfl, q13⟩

theorem law_CurKnown {w : World} {s : ByteArray} (hG0 : Glob w) (h63 : s.size ≤ 9223372036854775807) :
    Ret Tryd.prog 5 [.string s] w fun v w' => v = .bool (true) ∧ Chg 0 0 w w' := by
  refine sx_enter Tryd.func5 rfl Tryd.ntmps5 (Nat.le_of_ble_eq_true rfl) ?_
  refine sx_seq fun K1 k1 => ?_
  refine sx_region ?_
  refine sx_pure rfl rfl rfl (px_assign rfl) ?_
  refine wl_nil ?_
  refine q_n (k1 _ _ ?_)
  refine sx_seq fun K2 k2 => ?_
  refine sx_seq fun K3 k3 => ?_
  refine sx_region ?_
  refine sx_pure rfl rfl rfl (px_move rfl) ?_
  refine sx_pure rfl rfl rfl (px_lenS rfl Tryd.underlying9) ?_
  refine sx_pure rfl rfl rfl (px_gt rfl rfl) ?_
  refine wl_nil ?_
  refine q_n (k3 _ _ ?_)
  refine sx_condP rfl (fun h4747 => ?_) (fun h4747 => ?_)
  ·
    refine sx_seq fun K4 k4 => ?_
    refine sx_region ?_
    refine sx_pure rfl rfl rfl (px_assign rfl) ?_
    refine wl_nil ?_
    refine q_n (k4 _ _ ?_)
    refine sx_retc ?_
    refine q_r (sx_ret1 Tryd.results5 rfl ?_)
    exact ⟨rfl, (Chg.refl 0 0 _)⟩
  ·
    refine sx_skip ?_
    refine q_n (k2 _ _ ?_)
    refine sx_seq fun K5 k5 => ?_
    refine sx_region ?_
    refine sx_pure rfl rfl rfl (px_move rfl) ?_
    refine sx_call rfl rfl Tryd.call12 (c_sCurKnown) (fun v6 w6 p6 => ?_)
    obtain ⟨rfl, c6⟩ := p6
    have zw6 := c6.size
    refine sx_pure rfl rfl rfl (px_assign rfl) ?_
    refine wl_nil ?_
    refine q_n (k5 _ _ ?_)
    refine sx_seq fun K7 k7 => ?_
    refine sx_region ?_
    refine sx_pure rfl rfl rfl (px_move rfl) ?_
    have f8 := hG0.ext c6
    refine sx_call rfl rfl Tryd.call13 (c_iCurKnown f8) (fun v9 w9 p9 => ?_)
    obtain ⟨rfl, c9⟩ := p9
    have zw9 := c9.size
    refine sx_pure rfl rfl rfl (px_assign rfl) ?_
    refine wl_nil ?_
    refine q_n (k7 _ _ ?_)
    refine sx_seq fun K10 k10 => ?_
    refine sx_seq fun K11 k11 => ?_
    refine sx_region ?_
    refine sx_pure rfl rfl rfl (px_move rfl) ?_
    refine sx_pure rfl rfl rfl (px_move rfl) ?_
    refine sx_pure rfl rfl rfl (px_neB Tryd.underlying4 rfl rfl) ?_
    refine wl_nil ?_
    refine q_n (k11 _ _ ?_)
    have h4752 : ((decide (Known s)) != (decide (Known s))) = false := by simp
    refine sx_condBF rfl h4752 ?_
    refine sx_skip ?_
    refine q_n (k10 _ _ ?_)
    refine sx_seq fun K12 k12 => ?_
    refine sx_region ?_
    refine sx_pure rfl rfl rfl (px_assign rfl) ?_
    refine wl_nil ?_
    refine q_n (k12 _ _ ?_)
    refine sx_retc ?_
    refine sx_ret1 Tryd.results5 rfl ?_
    have q13 := Chg.step (l := 0) (h := 0) c6 c9 (by omega)
    exact ⟨rfl, q13⟩

theorem law_CurNumber {w : World} {s : ByteArray} (hG0 : Glob w) (h63 : s.size ≤ 9223372036854775807) :
    Ret Tryd.prog 6 [.string s] w fun v w' => v = .bool (true) ∧ Chg 0 0 w w' := by
  refine sx_enter Tryd.func6 rfl Tryd.ntmps6 (Nat.le_of_ble_eq_true rfl) ?_
  refine sx_seq fun K1 k1 => ?_
  refine sx_region ?_
  refine sx_pure rfl rfl rfl (px_assign rfl) ?_
  refine wl_nil ?_
  refine q_n (k1 _ _ ?_)
  refine sx_seq fun K2 k2 => ?_
  refine sx_seq fun K3 k3 => ?_
  refine sx_region ?_
  refine sx_pure rfl rfl rfl (px_move rfl) ?_
  refine sx_pure rfl rfl rfl (px_lenS rfl Tryd.underlying9) ?_
  refine sx_pure rfl rfl rfl (px_gt rfl rfl) ?_
  refine wl_nil ?_
  refine q_n (k3 _ _ ?_)
  refine sx_condP rfl (fun h4760 => ?_) (fun h4760 => ?_)
  ·
    refine sx_seq fun K4 k4 => ?_
    refine sx_region ?_
    refine sx_pure rfl rfl rfl (px_assign rfl) ?_
    refine wl_nil ?_
    refine q_n (k4 _ _ ?_)
    refine sx_retc ?_
    refine q_r (sx_ret1 Tryd.results6 rfl ?_)
    exact ⟨rfl, (Chg.refl 0 0 _)⟩
  ·
    refine sx_skip ?_
    refine q_n (k2 _ _ ?_)
    refine sx_seq fun K5 k5 => ?_
    refine sx_region ?_
    refine sx_pure rfl rfl rfl (px_move rfl) ?_
    refine sx_call rfl rfl Tryd.call14 (c_sCurNumber) (fun v6 w6 p6 => ?_)
    obtain ⟨rfl, c6⟩ := p6
    have zw6 := c6.size
    refine sx_pure rfl rfl rfl (px_assign rfl) ?_
    refine wl_nil ?_
    refine q_n (k5 _ _ ?_)
    refine sx_seq fun K7 k7 => ?_
    refine sx_region ?_
    refine sx_pure rfl rfl rfl (px_move rfl) ?_
    have f8 := hG0.ext c6
    refine sx_call rfl rfl Tryd.call15 (c_iCurNumber f8) (fun v9 w9 p9 => ?_)
    obtain ⟨rfl, c9⟩ := p9
    have zw9 := c9.size
    refine sx_pure rfl rfl rfl (px_assign rfl) ?_
    refine wl_nil ?_
    refine q_n (k7 _ _ ?_)
    refine sx_seq fun K10 k10 => ?_
    refine sx_seq fun K11 k11 => ?_
    refine sx_region ?_
    refine sx_pure rfl rfl rfl (px_move rfl) ?_
    refine sx_pure rfl rfl rfl (px_move rfl) ?_
    refine sx_pure rfl rfl rfl (px_neS rfl rfl) ?_
    refine wl_nil ?_
    refine q_n (k11 _ _ ?_)
    have h4765 : ¬ ((curOf s).number ≠ (curOf s).number) := by simp
    refine sx_condPF rfl h4765 ?_
    refine sx_skip ?_
    refine q_n (k10 _ _ ?_)
    refine sx_seq fun K12 k12 => ?_
    refine sx_region ?_
    refine sx_pure rfl rfl rfl (px_assign rfl) ?_
    refine wl_nil ?_
    refine q_n (k12 _ _ ?_)
    refine sx_retc ?_
    refine sx_ret1 Tryd.results6 rfl ?_
    have q13 := Chg.step (l := 0) (h := 0) c6 c9 (by omega)
    exact ⟨rfl, q13⟩

theorem law_CurPlaces {w : World} {s : ByteArray} (hG0 : Glob w) (h63 : s.size ≤ 9223372036854775807) :
    Ret Tryd.prog 7 [.string s] w fun v w' => v = .bool (true) ∧ Chg 0 0 w w' := by
  refine sx_enter Tryd.func7 rfl Tryd.ntmps7 (Nat.le_of_ble_eq_true rfl) ?_
  refine sx_seq fun K1 k1 => ?_
  refine sx_region ?_
  refine sx_pure rfl rfl rfl (px_assign rfl) ?_
  refine wl_nil ?_
  refine q_n (k1 _ _ ?_)
  refine sx_seq fun K2 k2 => ?_
  refine sx_seq fun K3 k3 => ?_
  refine sx_region ?_
  refine sx_pure rfl rfl rfl (px_move rfl) ?_
  refine sx_pure rfl rfl rfl (px_lenS rfl Tryd.underlying9) ?_
  refine sx_pure rfl rfl rfl (px_gt rfl rfl) ?_
  refine wl_nil ?_
  refine q_n (k3 _ _ ?_)
  refine sx_condP rfl (fun h4773 => ?_) (fun h4773 => ?_)
  ·
    refine sx_seq fun K4 k4 => ?_
    refine sx_region ?_
    refine sx_pure rfl rfl rfl (px_assign rfl) ?_
    refine wl_nil ?_
    refine q_n (k4 _ _ ?_)
    refine sx_retc ?_
    refine q_r (sx_ret1 Tryd.results7 rfl ?_)
    exact ⟨rfl, (Chg.refl 0 0 _)⟩
  ·
    refine sx_skip ?_
    refine q_n (k2 _ _ ?_)
    refine sx_seq fun K5 k5 => ?_
    refine sx_region ?_
    refine sx_pure rfl rfl rfl (px_move rfl) ?_
    refine sx_call rfl rfl Tryd.call16 (c_sCurPlaces) (fun v6 w6 p6 => ?_)
    obtain ⟨rfl, c6⟩ := p6
    have zw6 := c6.size
    refine sx_pure rfl rfl rfl (px_assign rfl) ?_
    refine wl_nil ?_
    refine q_n (k5 _ _ ?_)
    refine sx_seq fun K7 k7 => ?_
    refine sx_region ?_
    refine sx_pure rfl rfl rfl (px_move rfl) ?_
    have f8 := hG0.ext c6
    refine sx_call rfl rfl Tryd.call17 (c_iCurPlaces f8) (fun v9 w9 p9 => ?_)
    obtain ⟨rfl, c9⟩ := p9
    have zw9 := c9.size
    refine sx_pure rfl rfl rfl (px_assign rfl) ?_
    refine wl_nil ?_
    refine q_n (k7 _ _ ?_)
    refine sx_seq fun K10 k10 => ?_
    refine sx_seq fun K11 k11 => ?_
    refine sx_region ?_
    refine sx_pure rfl rfl rfl (px_move rfl) ?_
    refine sx_pure rfl rfl rfl (px_move rfl) ?_
    refine sx_pure rfl rfl rfl (px_ne rfl rfl) ?_
    refine wl_nil ?_
    refine q_n (k11 _ _ ?_)
    have h4778 : ¬ (((curOf s).places : Int) ≠ (curOf s).places) := by simp
    refine sx_condPF rfl h4778 ?_
    refine sx_skip ?_
    refine q_n (k10 _ _ ?_)
    refine sx_seq fun K12 k12 => ?_
    refine sx_region ?_
    refine sx_pure rfl rfl rfl (px_assign rfl) ?_
    refine wl_nil ?_
    refine q_n (k12 _ _ ?_)
    refine sx_retc ?_
    refine sx_ret1 Tryd.results7 rfl ?_
    have q13 := Chg.step (l := 0) (h := 0) c6 c9 (by omega)
    exact ⟨rfl, q13⟩

end Go.Proofs.YteaodpobfldpfaaDoor
