/- Contracts of functions of the program: what each call returns, and that it changes nothing that was. Conditions: as each says. -/
import Derived.Test.YtfoceofnldnbgaaTy
import Derived.Test.YtfoceofnldnbgaaNatK
import Derived.Test.YtfoceofnldnbgaaRm
import Derived.Test.YtfoceofnldnbgaaK0
import Derived.Test.YtfoceofnldnbgaaK1
set_option linter.unusedVariables false
set_option linter.unusedSimpArgs false
namespace Go.Proofs.Ytfoceofnldnbgaa
open Go Go.RowKit
set_option maxRecDepth 100000
theorem c_sRatOk {w : World} {n1 : Bool} {v1 : Value} {lv1 uv1 : Nat} {z1 : List Int} {d1 : Value} {ld1 ud1 : Nat} {y1 : List Int} (hv1 : Sl w lv1 uv1 v1 (z1)) (hd1 : Sl w ld1 ud1 d1 (y1)) (h63 : z1.length ≤ 4611686018427387904 ∧ y1.length ≤ 4611686018427387904) :
  Ret Try.prog 47 [.agg #[.bool n1, v1, d1]] w fun v w' => v = .bool (decide (ROk n1 z1 y1)) ∧ Chg 0 0 w w' := by
 have hv10 := hv1.fit
 have hd10 := hd1.fit
 refine sx_enter Try.func47 rfl Try.ntmps47 (Nat.le_of_ble_eq_true rfl) ?_
 refine sx_seq fun K1 k1 => sx_region ?_
 refine sx_box [.bool n1, v1, d1] rfl rfl rfl (fun b2 w3 eb2 sb2 fb2 cb2 => ?_)
 have zw3 := cb2.size
 refine sa rfl rfl rfl rfl ?_
 refine wl_nil (q_n (k1 _ _ ?_))
 refine sx_seq fun K4 k4 => ?_
 refine sx_seq fun K5 k5 => sx_region ?_
 refine sx_pure rfl rfl rfl (px_field rfl xfld44x0) ?_
 refine sx_pure rfl rfl rfl (px_load rfl (fb2.loadA (vs := [.bool n1, v1]) (look_lit rfl) Try.isAgg28 Try.sizeOf28)) ?_
 have f6 := hv10.ext cb2
 refine sx_call rfl rfl Try.call73 (c_sIntOk f6 (by omega)) (fun v7 w7 p7 => ?_)
 obtain ⟨rfl, c7⟩ := p7
 have zw7 := c7.size
 refine sx_pure rfl rfl rfl (px_notP rfl) ?_
 refine sm rfl rfl rfl rfl ?_
 refine sx_tmpP (t := 7) rfl (fun h7 => ?_) (fun h7 => ?_)
 ·
  refine sx_guardF rfl rfl rfl rfl rfl rfl ?_
  refine sx_guardF rfl rfl rfl rfl rfl rfl ?_
  refine sx_guardF rfl rfl rfl rfl rfl rfl ?_
  refine sx_guardF rfl rfl rfl rfl rfl rfl ?_
  refine sx_pure rfl rfl rfl (px_pick rfl rfl) ?_
  refine sm rfl rfl rfl rfl ?_
  refine sx_guardF rfl rfl rfl rfl rfl rfl ?_
  refine sx_guardF rfl rfl rfl rfl rfl rfl ?_
  refine sx_guardF rfl rfl rfl rfl rfl rfl ?_
  refine sx_guardF rfl rfl rfl rfl rfl rfl ?_
  refine sx_pure rfl rfl rfl (px_pick rfl rfl) ?_
  refine sm rfl rfl rfl rfl ?_
  refine sx_guardF rfl rfl rfl rfl rfl rfl ?_
  refine sx_guardF rfl rfl rfl rfl rfl rfl ?_
  refine sx_guardF rfl rfl rfl rfl rfl rfl ?_
  refine sx_guardF rfl rfl rfl rfl rfl rfl ?_
  refine sx_pure rfl rfl rfl (px_pick rfl rfl) ?_
  refine sm rfl rfl rfl rfl ?_
  refine sx_guardF rfl rfl rfl rfl rfl rfl ?_
  refine sx_guardF rfl rfl rfl rfl rfl rfl ?_
  refine sx_guardF rfl rfl rfl rfl rfl rfl ?_
  refine sx_guardF rfl rfl rfl rfl rfl rfl ?_
  refine sx_guardF rfl rfl rfl rfl rfl rfl ?_
  refine sx_pure rfl rfl rfl (px_pick rfl rfl) ?_
  refine wl_nil (q_n (k5 _ _ ?_))
  refine sx_sub (Sub.cons (t := 1) rfl (.cons (t := 2) rfl (.cons (t := 31) rfl (.nil)))) ?_
  refine sx_condT rfl ?_
  refine sx_seq fun K8 k8 => sx_region ?_
  refine sa rfl rfl rfl rfl ?_
  refine wl_nil (q_n (k8 _ _ ?_))
  refine sx_retc ?_
  refine q_r (sx_ret1 Try.results47 rfl ?_)
  exact ⟨(bFalse (by grind [ROk])), (cb2.t c7)⟩
 ·
  refine sx_guardT rfl rfl rfl ?_
  refine sx_pure rfl rfl rfl (px_field rfl xfld44x1) ?_
  refine sx_guardT rfl rfl rfl ?_
  have f9 := fb2.ext c7
  refine sx_pure rfl rfl rfl (px_load rfl (f9.load1 rfl Try.isAgg22)) ?_
  refine sx_guardT rfl rfl rfl ?_
  have f10 := hd10.ext cb2
  have f11 := f10.ext c7
  refine sx_call rfl rfl Try.call84 (c_sNatOk f11 (by omega)) (fun v12 w12 p12 => ?_)
  obtain ⟨rfl, c12⟩ := p12
  have zw12 := c12.size
  refine sx_guardT rfl rfl rfl ?_
  refine sx_pure rfl rfl rfl (px_notP rfl) ?_
  refine sx_pure rfl rfl rfl (px_pick rfl rfl) ?_
  refine sm rfl rfl rfl rfl ?_
  refine sx_tmpP (t := 13) rfl (fun h7x1 => ?_) (fun h7x1 => ?_)
  ·
   refine sx_guardF rfl rfl rfl rfl rfl rfl ?_
   refine sx_guardF rfl rfl rfl rfl rfl rfl ?_
   refine sx_guardF rfl rfl rfl rfl rfl rfl ?_
   refine sx_guardF rfl rfl rfl rfl rfl rfl ?_
   refine sx_pure rfl rfl rfl (px_pick rfl rfl) ?_
   refine sm rfl rfl rfl rfl ?_
   refine sx_guardF rfl rfl rfl rfl rfl rfl ?_
   refine sx_guardF rfl rfl rfl rfl rfl rfl ?_
   refine sx_guardF rfl rfl rfl rfl rfl rfl ?_
   refine sx_guardF rfl rfl rfl rfl rfl rfl ?_
   refine sx_pure rfl rfl rfl (px_pick rfl rfl) ?_
   refine sm rfl rfl rfl rfl ?_
   refine sx_guardF rfl rfl rfl rfl rfl rfl ?_
   refine sx_guardF rfl rfl rfl rfl rfl rfl ?_
   refine sx_guardF rfl rfl rfl rfl rfl rfl ?_
   refine sx_guardF rfl rfl rfl rfl rfl rfl ?_
   refine sx_guardF rfl rfl rfl rfl rfl rfl ?_
   refine sx_pure rfl rfl rfl (px_pick rfl rfl) ?_
   refine wl_nil (q_n (k5 _ _ ?_))
   refine sx_sub (Sub.cons (t := 1) rfl (.cons (t := 2) rfl (.cons (t := 31) rfl (.nil)))) ?_
   refine sx_condT rfl ?_
   refine sx_seq fun K13 k13 => sx_region ?_
   refine sa rfl rfl rfl rfl ?_
   refine wl_nil (q_n (k13 _ _ ?_))
   refine sx_retc ?_
   refine q_r (sx_ret1 Try.results47 rfl ?_)
   exact ⟨(bFalse (by grind [ROk])), ((cb2.t c7).t c12)⟩
  ·
   refine sx_guardT rfl rfl rfl ?_
   refine sx_pure rfl rfl rfl (px_field rfl xfld44x1) ?_
   refine sx_guardT rfl rfl rfl ?_
   have f14 := f9.ext c12
   refine sx_pure rfl rfl rfl (px_load rfl (f14.load1 rfl Try.isAgg22)) ?_
   refine sx_guardT rfl rfl rfl ?_
   have f15 := f11.ext c12
   refine sx_pure rfl rfl rfl (px_len rfl Try.underlying22 f15) ?_
   refine sx_guardT rfl rfl rfl ?_
   refine sx_pure rfl rfl rfl (px_eq rfl rfl) ?_
   refine sx_pure rfl rfl rfl (px_pick rfl rfl) ?_
   refine sm rfl rfl rfl rfl ?_
   refine sx_tmpP (t := 19) rfl (fun h7x2 => ?_) (fun h7x2 => ?_)
   ·
    refine sx_guardF rfl rfl rfl rfl rfl rfl ?_
    refine sx_guardF rfl rfl rfl rfl rfl rfl ?_
    refine sx_guardF rfl rfl rfl rfl rfl rfl ?_
    refine sx_guardF rfl rfl rfl rfl rfl rfl ?_
    refine sx_pure rfl rfl rfl (px_pick rfl rfl) ?_
    refine sm rfl rfl rfl rfl ?_
    refine sx_guardF rfl rfl rfl rfl rfl rfl ?_
    refine sx_guardF rfl rfl rfl rfl rfl rfl ?_
    refine sx_guardF rfl rfl rfl rfl rfl rfl ?_
    refine sx_guardF rfl rfl rfl rfl rfl rfl ?_
    refine sx_guardF rfl rfl rfl rfl rfl rfl ?_
    refine sx_pure rfl rfl rfl (px_pick rfl rfl) ?_
    refine wl_nil (q_n (k5 _ _ ?_))
    refine sx_sub (Sub.cons (t := 1) rfl (.cons (t := 2) rfl (.cons (t := 31) rfl (.nil)))) ?_
    refine sx_condT rfl ?_
    refine sx_seq fun K16 k16 => sx_region ?_
    refine sa rfl rfl rfl rfl ?_
    refine wl_nil (q_n (k16 _ _ ?_))
    refine sx_retc ?_
    refine q_r (sx_ret1 Try.results47 rfl ?_)
    exact ⟨(bFalse (by grind [ROk])), ((cb2.t c7).t c12)⟩
   ·
    refine sx_guardT rfl rfl rfl ?_
    refine sx_pure rfl rfl rfl (px_field rfl xfld44x1) ?_
    refine sx_guardT rfl rfl rfl ?_
    refine sx_pure rfl rfl rfl (px_load rfl (f14.load1 rfl Try.isAgg22)) ?_
    refine sx_guardT rfl rfl rfl ?_
    refine sx_pure rfl rfl rfl (px_len rfl Try.underlying22 f15) ?_
    refine sx_guardT rfl rfl rfl ?_
    refine sx_pure rfl rfl rfl (px_gt rfl rfl) ?_
    refine sx_pure rfl rfl rfl (px_pick rfl rfl) ?_
    refine sm rfl rfl rfl rfl ?_
    refine sx_tmpP (t := 25) rfl (fun h7x3 => ?_) (fun h7x3 => ?_)
    ·
     refine sx_guardF rfl rfl rfl rfl rfl rfl ?_
     refine sx_guardF rfl rfl rfl rfl rfl rfl ?_
     refine sx_guardF rfl rfl rfl rfl rfl rfl ?_
     refine sx_guardF rfl rfl rfl rfl rfl rfl ?_
     refine sx_guardF rfl rfl rfl rfl rfl rfl ?_
     refine sx_pure rfl rfl rfl (px_pick rfl rfl) ?_
     refine wl_nil (q_n (k5 _ _ ?_))
     refine sx_sub (Sub.cons (t := 1) rfl (.cons (t := 2) rfl (.cons (t := 31) rfl (.nil)))) ?_
     refine sx_condT rfl ?_
     refine sx_seq fun K17 k17 => sx_region ?_
     refine sa rfl rfl rfl rfl ?_
     refine wl_nil (q_n (k17 _ _ ?_))
     refine sx_retc ?_
     refine q_r (sx_ret1 Try.results47 rfl ?_)
     exact ⟨(bFalse (by grind [ROk])), ((cb2.t c7).t c12)⟩
    ·
     refine sx_guardT rfl rfl rfl ?_
     refine sx_pure rfl rfl rfl (px_field rfl xfld44x0) ?_
     refine sx_guardT rfl rfl rfl ?_
     refine sx_pure rfl rfl rfl (px_field rfl xfld28x1) ?_
     refine sx_guardT rfl rfl rfl ?_
     refine sx_pure rfl rfl rfl (px_load rfl (f14.load1 rfl Try.isAgg22)) ?_
     refine sx_guardT rfl rfl rfl ?_
     have f18 := f6.ext c7
     have f19 := f18.ext c12
     refine sx_pure rfl rfl rfl (px_len rfl Try.underlying22 f19) ?_
     refine sx_guardT rfl rfl rfl ?_
     refine sx_pure rfl rfl rfl (px_gt rfl rfl) ?_
     refine sx_pure rfl rfl rfl (px_pick rfl rfl) ?_
     refine wl_nil (q_n (k5 _ _ ?_))
     refine sx_sub (Sub.cons (t := 1) rfl (.cons (t := 2) rfl (.cons (t := 31) rfl (.nil)))) ?_
     refine sx_condP rfl (fun h7x4 => ?_) (fun h7x4 => ?_)
     ·
      refine sx_seq fun K20 k20 => sx_region ?_
      refine sa rfl rfl rfl rfl ?_
      refine wl_nil (q_n (k20 _ _ ?_))
      refine sx_retc ?_
      refine q_r (sx_ret1 Try.results47 rfl ?_)
      exact ⟨(bFalse (by grind [ROk])), ((cb2.t c7).t c12)⟩
     ·
      have hR1 := Decidable.not_not.1 h7
      have hR2 := Decidable.not_not.1 h7x1
      obtain ⟨x1, rfl, rfl, hx1⟩ := hR1.int
      obtain ⟨e1, rfl, he1⟩ := hR2.dg
      have he0 : 0 < e1 := len_pos.1 (by omega)
      have hk : ROk (ng x1) (dg x1.natAbs) (dg e1) ↔ dg (Nat.gcd x1.natAbs e1) = [1] := by rw [ROk_iff, dg_is_one]; exact ⟨fun h => h.2.2.2, fun h => ⟨he0, by omega, by omega, h⟩⟩
      refine sx_skip ?_
      refine q_n (k4 _ _ ?_)
      refine sx_seq fun K21 k21 => sx_region ?_
      refine sx_pure rfl rfl rfl (px_field rfl xfld44x0) ?_
      refine sx_pure rfl rfl rfl (px_field rfl xfld28x1) ?_
      refine sx_pure rfl rfl rfl (px_load rfl (f14.load1 rfl Try.isAgg22)) ?_
      refine sx_pure rfl rfl rfl (px_field rfl xfld44x1) ?_
      refine sx_pure rfl rfl rfl (px_load rfl (f14.load1 rfl Try.isAgg22)) ?_
      refine sx_call rfl rfl Try.call86 (c_sNatGcd f19 f15 (by omega) (by omega)) (fun v22 w22 p22 => ?_)
      obtain ⟨s22, rfl, os_22, c22⟩ := p22
      have zw22 := c22.size
      refine sx_lit1 rfl xelt22 rfl rfl (fun s23 ws23 ss23 fs23 cs23 => ?_)
      have ns23 := Own.norm (f := (Value.int .i64)) (zs := [1]) fs23
      have zws23 := cs23.size
      have f24 := os_22.ext cs23
      refine sx_call rfl rfl Try.call85 (c_l02Cmp f24 ns23.sv (by have h9 := gcd_le_left (m := x1.natAbs) (n := e1) (k := 50) (by omega) (by omega); simp only [List.length_cons, List.length_nil]; omega)) (fun v25 w25 p25 => ?_)
      obtain ⟨rfl, c25⟩ := p25
      have zw25 := c25.size
      refine sx_pure rfl rfl rfl (px_eq rfl rfl) ?_
      refine sa rfl rfl rfl rfl ?_
      refine wl_nil (q_n (k21 _ _ ?_))
      refine sx_retc ?_
      refine sx_ret1 Try.results47 rfl ?_
      exact ⟨(bIff ⟨fun h => hk.2 (cmpL_zero.1 h), fun h => cmpL_zero.2 (hk.1 h)⟩), (((((cb2.t c7).t c12).t c22).t cs23).t c25)⟩

theorem c_l06Mode {w : World} {m : Int} :
  Ret Try.prog 48 [.int .i64 m] w fun v w' => v = .bool (decide (0 ≤ m ∧ m ≤ 6)) ∧ Chg 0 0 w w' := by
 refine sx_enter Try.func48 rfl Try.ntmps48 (Nat.le_of_ble_eq_true rfl) ?_
 refine sx_seq fun K1 k1 => sx_region ?_
 refine sa rfl rfl rfl rfl ?_
 refine wl_nil (q_n (k1 _ _ ?_))
 refine sx_seq fun K2 k2 => sx_region ?_
 refine sm rfl rfl rfl rfl ?_
 refine sx_call rfl rfl Try.call33 (c_l01In) (fun v3 w3 p3 => ?_)
 obtain ⟨rfl, c3⟩ := p3
 have zw3 := c3.size
 refine sa rfl rfl rfl rfl ?_
 refine wl_nil (q_n (k2 _ _ ?_))
 refine sx_retc ?_
 refine sx_ret1 Try.results48 rfl ?_
 exact ⟨(by first | exact bTrue (by grind) | exact bFalse (by grind) | exact bIff (by grind)), c3⟩

theorem c_l02Add {w : World} {va : Value} {lva uva : Nat} {m : Nat} {vb : Value} {lvb uvb : Nat} {n : Nat} (hva : Sl w lva uva va (dg m)) (hvb : Sl w lvb uvb vb (dg n)) (hbm : (dg m).length ≤ 1000) (hbn : (dg n).length ≤ 1000) :
  Ret Try.prog 53 [va, vb] w fun v w' => ∃ s, v = s ∧ Sl w' (w.heap.size) (w'.heap.size) s (dg (m + n)) ∧ Chg 0 0 w w' := by
 have hva0 := hva.fit
 have hvb0 := hvb.fit
 refine sx_enter Try.func53 rfl Try.ntmps53 (Nat.le_of_ble_eq_true rfl) ?_
 refine sx_seq fun K1 k1 => sx_region ?_
 refine sa rfl rfl rfl rfl ?_
 refine wl_nil (q_n (k1 _ _ ?_))
 refine sx_seq fun K2 k2 => sx_region ?_
 refine sx_lit0 rfl xelt22 (fun s3 ws3 ss3 fs3 cs3 => ?_)
 have zws3 := cs3.size
 refine sa rfl rfl rfl rfl ?_
 refine wl_nil (q_n (k2 _ _ ?_))
 refine sx_seq fun K4 k4 => sx_region ?_
 refine sa rfl rfl rfl rfl ?_
 refine wl_nil (q_n (k4 _ _ ?_))
 refine sx_seq fun K5 k5 => ?_
 refine sx_seq fun K6 k6 => sx_region ?_
 refine sa rfl rfl rfl rfl ?_
 refine wl_nil (q_n (k6 _ _ ?_))
 refine sx_block ?_
 refine sx_loop (fun mm aa w' => ∃ (k : Nat) (s : Value) (os : List Int) (c : Nat), Agr 55 [(0, va), (1, vb), (5, s), (6, .int .i64 ((c : Nat) : Int)), (7, .int .i64 ↑k)] aa ∧ Chg w.heap.size ws3.heap.size ws3 w' ∧ Own w' w.heap.size w'.heap.size s intT os.length 1 (os.map (Value.int .i64)) ∧ (mm = max (dg m).length (dg n).length + 1 - k) ∧ (os.length = k) ∧ (Lm os) ∧ (c ≤ 1) ∧ (vl os + Bs ^ k * c = vl ((dg m).take k) + vl ((dg n).take k)) ∧ (k ≤ max (dg m).length (dg n).length ∨ (c = 0 ∧ k = max (dg m).length (dg n).length + 1 ∧ Bs ^ (k - 1) ≤ vl os))) (_) (fun a ha => ⟨0, s3, [], 0, ha.sub (Sub.cons (t := 0) rfl (.cons (t := 1) rfl (.cons (t := 5) rfl (.cons (t := 6) (look_int (t := 6) rfl (by first | omega | simp)) (.cons (t := 7) (look_int (t := 7) rfl (by first | omega | simp)) (.nil)))))), Chg.refl _ _ _, (fs3.mono (by omega) (by omega)), rfl, rfl, Lm.nil, by omega, by simp [vl], .inl (Nat.zero_le _)⟩) ?_
 rintro mm aa wl7 ⟨k, s, os, c, hAwl7, cwl7, hs_s, hm, hos, hlm, hc, hv, hlast⟩
 refine (show cw Try.prog 55 _ _ _ wl7 from ?_) aa hAwl7
 clear hAwl7
 have zwl7 := cwl7.size
 have am := (Lm_dg m).getD k
 have bn := (Lm_dg n).getD k
 refine sx_seq fun K8 k8 => ?_
 refine sx_seq fun K9 k9 => sx_region ?_
 refine sm rfl rfl rfl rfl ?_
 refine sm rfl rfl rfl rfl ?_
 have f10 := hva0.ext cs3
 have f11 := f10.chg cwl7 (by omega)
 refine sx_pure rfl rfl rfl (px_len rfl Try.underlying22 f11) ?_
 refine sx_pure rfl rfl rfl (px_lt rfl rfl) ?_
 refine sm rfl rfl rfl rfl ?_
 refine sx_tmpP (t := 14) rfl (fun h82 => ?_) (fun h82 => ?_)
 ·
  refine sx_guardF rfl rfl rfl rfl rfl rfl ?_
  refine sx_guardF rfl rfl rfl rfl rfl rfl ?_
  refine sx_guardF rfl rfl rfl rfl rfl rfl ?_
  refine sx_guardF rfl rfl rfl rfl rfl rfl ?_
  refine sx_pure rfl rfl rfl (px_pick rfl rfl) ?_
  refine sm rfl rfl rfl rfl ?_
  refine sx_guardF rfl rfl rfl rfl rfl rfl ?_
  refine sx_guardF rfl rfl rfl rfl rfl rfl ?_
  refine sx_pure rfl rfl rfl (px_pick rfl rfl) ?_
  refine wl_nil (q_n (k9 _ _ ?_))
  refine sx_sub (Sub.cons (t := 0) rfl (.cons (t := 1) rfl (.cons (t := 5) rfl (.cons (t := 6) rfl (.cons (t := 7) rfl (.cons (t := 23) rfl (.nil))))))) ?_
  refine sx_condT rfl ?_
  refine sx_skip ?_
  refine q_n (k8 _ _ ?_)
  refine sx_seq fun K12 k12 => ?_
  refine sx_block ?_
  refine sx_seq fun K13 k13 => sx_region ?_
  refine sm rfl rfl rfl rfl ?_
  refine sa rfl rfl rfl rfl ?_
  refine wl_nil (q_n (k13 _ _ ?_))
  refine sx_seq fun K14 k14 => ?_
  refine sx_seq fun K15 k15 => sx_region ?_
  refine sm rfl rfl rfl rfl ?_
  refine sm rfl rfl rfl rfl ?_
  refine sx_pure rfl rfl rfl (px_len rfl Try.underlying22 f11) ?_
  refine sx_pure rfl rfl rfl (px_lt rfl rfl) ?_
  refine wl_nil (q_n (k15 _ _ ?_))
  refine sx_condP rfl (fun h84 => ?_) (fun h84 => ?_)
  ·
   refine sx_region ?_
   refine sm rfl rfl rfl rfl ?_
   refine sm rfl rfl rfl rfl ?_
   refine sm rfl rfl rfl rfl ?_
   refine sx_pure rfl rfl rfl (px_index1 (j := k) rfl rfl (by omega) Try.underlying22 Try.sizeOf3 f11 (by omega)) ?_
   refine sx_pure rfl rfl rfl (px_load rfl (f11.load1 (at_int (by omega)) Try.isAgg3)) ?_
   refine sx_pure rfl rfl rfl (px_add rfl rfl (by omega)) ?_
   refine sa rfl rfl rfl rfl ?_
   refine wl_nil (q_n (k14 _ _ ?_))
   refine sx_sub (Sub.cons (t := 0) rfl (.cons (t := 1) rfl (.cons (t := 5) rfl (.cons (t := 6) rfl (.cons (t := 7) rfl (.cons (t := 8) rfl (.nil))))))) ?_
   refine sx_seq fun K16 k16 => ?_
   refine sx_seq fun K17 k17 => sx_region ?_
   refine sm rfl rfl rfl rfl ?_
   refine sm rfl rfl rfl rfl ?_
   have f18 := hvb0.ext cs3
   have f19 := f18.chg cwl7 (by omega)
   refine sx_pure rfl rfl rfl (px_len rfl Try.underlying22 f19) ?_
   refine sx_pure rfl rfl rfl (px_lt rfl rfl) ?_
   refine wl_nil (q_n (k17 _ _ ?_))
   refine sx_condP rfl (fun h87 => ?_) (fun h87 => ?_)
   ·
    refine sx_region ?_
    refine sm rfl rfl rfl rfl ?_
    refine sm rfl rfl rfl rfl ?_
    refine sm rfl rfl rfl rfl ?_
    refine sx_pure rfl rfl rfl (px_index1 (j := k) rfl rfl (by omega) Try.underlying22 Try.sizeOf3 f19 (by omega)) ?_
    refine sx_pure rfl rfl rfl (px_load rfl (f19.load1 (at_int (by omega)) Try.isAgg3)) ?_
    refine sx_pure rfl rfl rfl (px_add rfl rfl (by omega)) ?_
    refine sa rfl rfl rfl rfl ?_
    refine wl_nil (q_n (k16 _ _ ?_))
    refine sx_sub (Sub.cons (t := 0) rfl (.cons (t := 1) rfl (.cons (t := 5) rfl (.cons (t := 6) rfl (.cons (t := 7) rfl (.cons (t := 8) rfl (.nil))))))) ?_
    refine sx_seq fun K20 k20 => sx_region ?_
    refine sm rfl rfl rfl rfl ?_
    refine sm rfl rfl rfl rfl ?_
    refine sx_pure rfl rfl rfl (px_rem rfl rfl (by omega) (by omega)) ?_
    refine sx_lit1 rfl xelt22 rfl rfl (fun s21 ws21 ss21 fs21 cs21 => ?_)
    have ns21 := Own.norm (f := (Value.int .i64)) (zs := [((((c : Nat) : Int) + ((dg m).getD k 0)) + ((dg n).getD k 0)) % 1000000000]) fs21
    have zws21 := cs21.size
    have f23 := hs_s.ext cs21
    refine sx_append rfl xelt22 rfl rfl f23 ns21.sv one_int (by omega) (by simp only [List.length_cons, List.length_nil]; omega) (by unfold maxLen; simp only [List.length_cons, List.length_nil]; omega) (fun a22 w22 fw22 cw22 => ?_)
    have nw22 := Own.app (f := (Value.int .i64)) (a := os) (b := [((((c : Nat) : Int) + ((dg m).getD k 0)) + ((dg n).getD k 0)) % 1000000000]) fw22
    have zw22 := cw22.size
    refine sa rfl rfl rfl rfl ?_
    refine wl_nil (q_n (k20 _ _ ?_))
    refine sx_region ?_
    refine sm rfl rfl rfl rfl ?_
    refine sx_pure rfl rfl rfl (px_quo rfl rfl (by omega) (by omega) (by omega)) ?_
    refine sa rfl rfl rfl rfl ?_
    refine wl_nil ?_
    refine q_bn (q_n (k12 _ _ ?_))
    refine sx_region ?_
    refine sm rfl rfl rfl rfl ?_
    refine sx_pure rfl rfl rfl (px_add rfl rfl (by omega)) ?_
    refine sa rfl rfl rfl rfl ?_
    refine wl_nil ?_
    have q24 := Chg.step (l := w.heap.size) (h := ws3.heap.size) cwl7 cs21 (by omega)
    have q25 := Chg.step (l := w.heap.size) (h := ws3.heap.size) q24 cw22 (by omega)
    have hs : (((((c : Nat) : Int) + ((dg m).getD k 0)) + ((dg n).getD k 0)) : Int) = ((c : Nat) : Int) + (((dg m).getD k 0).toNat : Nat) + (((dg n).getD k 0).toNat : Nat) := by omega
    have hv2 : vl (os ++ [(((((c : Nat) : Int) + ((dg m).getD k 0)) + ((dg n).getD k 0))) % 1000000000]) + Bs ^ (k + 1) * ((((((c : Nat) : Int) + ((dg m).getD k 0)) + ((dg n).getD k 0))) / 1000000000 : Int).toNat = vl ((dg m).take (k + 1)) + vl ((dg n).take (k + 1)) := by
     rw [vl_concat, hos, vl_take_succ', vl_take_succ', Nat.pow_succ]
     exact add_step hs hv
    have hX := mod_bd (s := ((((c : Nat) : Int) + ((dg m).getD k 0)) + ((dg n).getD k 0))) (by omega)
    have hl3 : k + 1 ≤ max (dg m).length (dg n).length ∨ (((((((c : Nat) : Int) + ((dg m).getD k 0)) + ((dg n).getD k 0))) / 1000000000 : Int).toNat = 0 ∧ k + 1 = max (dg m).length (dg n).length + 1 ∧ Bs ^ (k + 1 - 1) ≤ vl (os ++ [(((((c : Nat) : Int) + ((dg m).getD k 0)) + ((dg n).getD k 0))) % 1000000000])) := by
     by_cases hkM : k + 1 ≤ max (dg m).length (dg n).length
     · exact .inl hkM
     · first
      | (exfalso; omega)
      | (refine .inr ⟨by omega, by omega, ?_⟩; rw [vl_concat, hos, Nat.add_sub_cancel, show (((((c : Nat) : Int) + ((dg m).getD k 0)) + ((dg n).getD k 0))) % 1000000000 = 1 by omega]; exact Nat.le_trans (by simp) (Nat.le_add_left _ _))
    exact fun a ha => ⟨_, by omega, (k + 1), a22, (os ++ ([((((c : Nat) : Int) + ((dg m).getD k 0)) + ((dg n).getD k 0)) % 1000000000])), ((((((c : Nat) : Int) + ((dg m).getD k 0)) + ((dg n).getD k 0))) / 1000000000 : Int).toNat, ha.sub (Sub.cons (t := 0) rfl (.cons (t := 1) rfl (.cons (t := 5) rfl (.cons (t := 6) (look_int (t := 6) rfl (by first | omega | simp)) (.cons (t := 7) (look_int (t := 7) rfl (by first | omega | simp)) (.nil)))))), q25, (nw22.mono (by omega) (by omega)), rfl, by simp [hos], hlm.append (Lm.single hX.1 hX.2), by omega, hv2, hl3⟩
   ·
    have gn := getD_ge (zs := dg n) (k := k) (by omega)
    refine sx_skip ?_
    refine q_n (k16 _ _ ?_)
    refine sx_seq fun K26 k26 => sx_region ?_
    refine sm rfl rfl rfl rfl ?_
    refine sm rfl rfl rfl rfl ?_
    refine sx_pure rfl rfl rfl (px_rem rfl rfl (by omega) (by omega)) ?_
    refine sx_lit1 rfl xelt22 rfl rfl (fun s27 ws27 ss27 fs27 cs27 => ?_)
    have ns27 := Own.norm (f := (Value.int .i64)) (zs := [(((c : Nat) : Int) + ((dg m).getD k 0)) % 1000000000]) fs27
    have zws27 := cs27.size
    have f29 := hs_s.ext cs27
    refine sx_append rfl xelt22 rfl rfl f29 ns27.sv one_int (by omega) (by simp only [List.length_cons, List.length_nil]; omega) (by unfold maxLen; simp only [List.length_cons, List.length_nil]; omega) (fun a28 w28 fw28 cw28 => ?_)
    have nw28 := Own.app (f := (Value.int .i64)) (a := os) (b := [(((c : Nat) : Int) + ((dg m).getD k 0)) % 1000000000]) fw28
    have zw28 := cw28.size
    refine sa rfl rfl rfl rfl ?_
    refine wl_nil (q_n (k26 _ _ ?_))
    refine sx_sub (Sub.cons (t := 0) rfl (.cons (t := 1) rfl (.cons (t := 5) rfl (.cons (t := 6) rfl (.cons (t := 7) rfl (.cons (t := 8) rfl (.nil))))))) ?_
    refine sx_region ?_
    refine sm rfl rfl rfl rfl ?_
    refine sx_pure rfl rfl rfl (px_quo rfl rfl (by omega) (by omega) (by omega)) ?_
    refine sa rfl rfl rfl rfl ?_
    refine wl_nil ?_
    refine q_bn (q_n (k12 _ _ ?_))
    refine sx_region ?_
    refine sm rfl rfl rfl rfl ?_
    refine sx_pure rfl rfl rfl (px_add rfl rfl (by omega)) ?_
    refine sa rfl rfl rfl rfl ?_
    refine wl_nil ?_
    have q30 := Chg.step (l := w.heap.size) (h := ws3.heap.size) cwl7 cs27 (by omega)
    have q31 := Chg.step (l := w.heap.size) (h := ws3.heap.size) q30 cw28 (by omega)
    have hs : ((((c : Nat) : Int) + ((dg m).getD k 0)) : Int) = ((c : Nat) : Int) + (((dg m).getD k 0).toNat : Nat) + (((dg n).getD k 0).toNat : Nat) := by omega
    have hv2 : vl (os ++ [((((c : Nat) : Int) + ((dg m).getD k 0))) % 1000000000]) + Bs ^ (k + 1) * (((((c : Nat) : Int) + ((dg m).getD k 0))) / 1000000000 : Int).toNat = vl ((dg m).take (k + 1)) + vl ((dg n).take (k + 1)) := by
     rw [vl_concat, hos, vl_take_succ', vl_take_succ', Nat.pow_succ]
     exact add_step hs hv
    have hX := mod_bd (s := (((c : Nat) : Int) + ((dg m).getD k 0))) (by omega)
    have hl3 : k + 1 ≤ max (dg m).length (dg n).length ∨ ((((((c : Nat) : Int) + ((dg m).getD k 0))) / 1000000000 : Int).toNat = 0 ∧ k + 1 = max (dg m).length (dg n).length + 1 ∧ Bs ^ (k + 1 - 1) ≤ vl (os ++ [((((c : Nat) : Int) + ((dg m).getD k 0))) % 1000000000])) := by
     by_cases hkM : k + 1 ≤ max (dg m).length (dg n).length
     · exact .inl hkM
     · first
      | (exfalso; omega)
      | (refine .inr ⟨by omega, by omega, ?_⟩; rw [vl_concat, hos, Nat.add_sub_cancel, show ((((c : Nat) : Int) + ((dg m).getD k 0))) % 1000000000 = 1 by omega]; exact Nat.le_trans (by simp) (Nat.le_add_left _ _))
    exact fun a ha => ⟨_, by omega, (k + 1), a28, (os ++ ([(((c : Nat) : Int) + ((dg m).getD k 0)) % 1000000000])), (((((c : Nat) : Int) + ((dg m).getD k 0))) / 1000000000 : Int).toNat, ha.sub (Sub.cons (t := 0) rfl (.cons (t := 1) rfl (.cons (t := 5) rfl (.cons (t := 6) (look_int (t := 6) rfl (by first | omega | simp)) (.cons (t := 7) (look_int (t := 7) rfl (by first | omega | simp)) (.nil)))))), q31, (nw28.mono (by omega) (by omega)), rfl, by simp [hos], hlm.append (Lm.single hX.1 hX.2), by omega, hv2, hl3⟩
  ·
   have gm := getD_ge (zs := dg m) (k := k) (by omega)
   refine sx_skip ?_
   refine q_n (k14 _ _ ?_)
   refine sx_seq fun K32 k32 => ?_
   refine sx_seq fun K33 k33 => sx_region ?_
   refine sm rfl rfl rfl rfl ?_
   refine sm rfl rfl rfl rfl ?_
   have f34 := hvb0.ext cs3
   have f35 := f34.chg cwl7 (by omega)
   refine sx_pure rfl rfl rfl (px_len rfl Try.underlying22 f35) ?_
   refine sx_pure rfl rfl rfl (px_lt rfl rfl) ?_
   refine wl_nil (q_n (k33 _ _ ?_))
   refine sx_sub (Sub.cons (t := 0) rfl (.cons (t := 1) rfl (.cons (t := 5) rfl (.cons (t := 6) rfl (.cons (t := 7) rfl (.cons (t := 8) rfl (.cons (t := 40) rfl (.nil)))))))) ?_
   refine sx_condP rfl (fun h87 => ?_) (fun h87 => ?_)
   ·
    refine sx_region ?_
    refine sm rfl rfl rfl rfl ?_
    refine sm rfl rfl rfl rfl ?_
    refine sm rfl rfl rfl rfl ?_
    refine sx_pure rfl rfl rfl (px_index1 (j := k) rfl rfl (by omega) Try.underlying22 Try.sizeOf3 f35 (by omega)) ?_
    refine sx_pure rfl rfl rfl (px_load rfl (f35.load1 (at_int (by omega)) Try.isAgg3)) ?_
    refine sx_pure rfl rfl rfl (px_add rfl rfl (by omega)) ?_
    refine sa rfl rfl rfl rfl ?_
    refine wl_nil (q_n (k32 _ _ ?_))
    refine sx_seq fun K36 k36 => sx_region ?_
    refine sm rfl rfl rfl rfl ?_
    refine sm rfl rfl rfl rfl ?_
    refine sx_pure rfl rfl rfl (px_rem rfl rfl (by omega) (by omega)) ?_
    refine sx_lit1 rfl xelt22 rfl rfl (fun s37 ws37 ss37 fs37 cs37 => ?_)
    have ns37 := Own.norm (f := (Value.int .i64)) (zs := [(((c : Nat) : Int) + ((dg n).getD k 0)) % 1000000000]) fs37
    have zws37 := cs37.size
    have f39 := hs_s.ext cs37
    refine sx_append rfl xelt22 rfl rfl f39 ns37.sv one_int (by omega) (by simp only [List.length_cons, List.length_nil]; omega) (by unfold maxLen; simp only [List.length_cons, List.length_nil]; omega) (fun a38 w38 fw38 cw38 => ?_)
    have nw38 := Own.app (f := (Value.int .i64)) (a := os) (b := [(((c : Nat) : Int) + ((dg n).getD k 0)) % 1000000000]) fw38
    have zw38 := cw38.size
    refine sa rfl rfl rfl rfl ?_
    refine wl_nil (q_n (k36 _ _ ?_))
    refine sx_sub (Sub.cons (t := 0) rfl (.cons (t := 1) rfl (.cons (t := 5) rfl (.cons (t := 6) rfl (.cons (t := 7) rfl (.cons (t := 8) rfl (.nil))))))) ?_
    refine sx_region ?_
    refine sm rfl rfl rfl rfl ?_
    refine sx_pure rfl rfl rfl (px_quo rfl rfl (by omega) (by omega) (by omega)) ?_
    refine sa rfl rfl rfl rfl ?_
    refine wl_nil ?_
    refine q_bn (q_n (k12 _ _ ?_))
    refine sx_region ?_
    refine sm rfl rfl rfl rfl ?_
    refine sx_pure rfl rfl rfl (px_add rfl rfl (by omega)) ?_
    refine sa rfl rfl rfl rfl ?_
    refine wl_nil ?_
    have q40 := Chg.step (l := w.heap.size) (h := ws3.heap.size) cwl7 cs37 (by omega)
    have q41 := Chg.step (l := w.heap.size) (h := ws3.heap.size) q40 cw38 (by omega)
    have hs : ((((c : Nat) : Int) + ((dg n).getD k 0)) : Int) = ((c : Nat) : Int) + (((dg m).getD k 0).toNat : Nat) + (((dg n).getD k 0).toNat : Nat) := by omega
    have hv2 : vl (os ++ [((((c : Nat) : Int) + ((dg n).getD k 0))) % 1000000000]) + Bs ^ (k + 1) * (((((c : Nat) : Int) + ((dg n).getD k 0))) / 1000000000 : Int).toNat = vl ((dg m).take (k + 1)) + vl ((dg n).take (k + 1)) := by
     rw [vl_concat, hos, vl_take_succ', vl_take_succ', Nat.pow_succ]
     exact add_step hs hv
    have hX := mod_bd (s := (((c : Nat) : Int) + ((dg n).getD k 0))) (by omega)
    have hl3 : k + 1 ≤ max (dg m).length (dg n).length ∨ ((((((c : Nat) : Int) + ((dg n).getD k 0))) / 1000000000 : Int).toNat = 0 ∧ k + 1 = max (dg m).length (dg n).length + 1 ∧ Bs ^ (k + 1 - 1) ≤ vl (os ++ [((((c : Nat) : Int) + ((dg n).getD k 0))) % 1000000000])) := by
     by_cases hkM : k + 1 ≤ max (dg m).length (dg n).length
     · exact .inl hkM
     · first
      | (exfalso; omega)
      | (refine .inr ⟨by omega, by omega, ?_⟩; rw [vl_concat, hos, Nat.add_sub_cancel, show ((((c : Nat) : Int) + ((dg n).getD k 0))) % 1000000000 = 1 by omega]; exact Nat.le_trans (by simp) (Nat.le_add_left _ _))
    exact fun a ha => ⟨_, by omega, (k + 1), a38, (os ++ ([(((c : Nat) : Int) + ((dg n).getD k 0)) % 1000000000])), (((((c : Nat) : Int) + ((dg n).getD k 0))) / 1000000000 : Int).toNat, ha.sub (Sub.cons (t := 0) rfl (.cons (t := 1) rfl (.cons (t := 5) rfl (.cons (t := 6) (look_int (t := 6) rfl (by first | omega | simp)) (.cons (t := 7) (look_int (t := 7) rfl (by first | omega | simp)) (.nil)))))), q41, (nw38.mono (by omega) (by omega)), rfl, by simp [hos], hlm.append (Lm.single hX.1 hX.2), by omega, hv2, hl3⟩
   ·
    have gn := getD_ge (zs := dg n) (k := k) (by omega)
    refine sx_skip ?_
    refine q_n (k32 _ _ ?_)
    refine sx_seq fun K42 k42 => sx_region ?_
    refine sm rfl rfl rfl rfl ?_
    refine sm rfl rfl rfl rfl ?_
    refine sx_pure rfl rfl rfl (px_rem rfl rfl (by omega) (by omega)) ?_
    refine sx_lit1 rfl xelt22 rfl rfl (fun s43 ws43 ss43 fs43 cs43 => ?_)
    have ns43 := Own.norm (f := (Value.int .i64)) (zs := [((c : Nat) : Int) % 1000000000]) fs43
    have zws43 := cs43.size
    have f45 := hs_s.ext cs43
    refine sx_append rfl xelt22 rfl rfl f45 ns43.sv one_int (by omega) (by simp only [List.length_cons, List.length_nil]; omega) (by unfold maxLen; simp only [List.length_cons, List.length_nil]; omega) (fun a44 w44 fw44 cw44 => ?_)
    have nw44 := Own.app (f := (Value.int .i64)) (a := os) (b := [((c : Nat) : Int) % 1000000000]) fw44
    have zw44 := cw44.size
    refine sa rfl rfl rfl rfl ?_
    refine wl_nil (q_n (k42 _ _ ?_))
    refine sx_region ?_
    refine sm rfl rfl rfl rfl ?_
    refine sx_pure rfl rfl rfl (px_quo rfl rfl (by omega) (by omega) (by omega)) ?_
    refine sa rfl rfl rfl rfl ?_
    refine wl_nil ?_
    refine q_bn (q_n (k12 _ _ ?_))
    refine sx_region ?_
    refine sm rfl rfl rfl rfl ?_
    refine sx_pure rfl rfl rfl (px_add rfl rfl (by omega)) ?_
    refine sa rfl rfl rfl rfl ?_
    refine wl_nil ?_
    have q46 := Chg.step (l := w.heap.size) (h := ws3.heap.size) cwl7 cs43 (by omega)
    have q47 := Chg.step (l := w.heap.size) (h := ws3.heap.size) q46 cw44 (by omega)
    have hs : (((c : Nat) : Int) : Int) = ((c : Nat) : Int) + (((dg m).getD k 0).toNat : Nat) + (((dg n).getD k 0).toNat : Nat) := by omega
    have hv2 : vl (os ++ [(((c : Nat) : Int)) % 1000000000]) + Bs ^ (k + 1) * ((((c : Nat) : Int)) / 1000000000 : Int).toNat = vl ((dg m).take (k + 1)) + vl ((dg n).take (k + 1)) := by
     rw [vl_concat, hos, vl_take_succ', vl_take_succ', Nat.pow_succ]
     exact add_step hs hv
    have hX := mod_bd (s := ((c : Nat) : Int)) (by omega)
    have hl3 : k + 1 ≤ max (dg m).length (dg n).length ∨ (((((c : Nat) : Int)) / 1000000000 : Int).toNat = 0 ∧ k + 1 = max (dg m).length (dg n).length + 1 ∧ Bs ^ (k + 1 - 1) ≤ vl (os ++ [(((c : Nat) : Int)) % 1000000000])) := by
     by_cases hkM : k + 1 ≤ max (dg m).length (dg n).length
     · exact .inl hkM
     · first
      | (exfalso; omega)
      | (refine .inr ⟨by omega, by omega, ?_⟩; rw [vl_concat, hos, Nat.add_sub_cancel, show (((c : Nat) : Int)) % 1000000000 = 1 by omega]; exact Nat.le_trans (by simp) (Nat.le_add_left _ _))
    exact fun a ha => ⟨_, by omega, (k + 1), a44, (os ++ ([((c : Nat) : Int) % 1000000000])), ((((c : Nat) : Int)) / 1000000000 : Int).toNat, ha.sub (Sub.cons (t := 0) rfl (.cons (t := 1) rfl (.cons (t := 5) rfl (.cons (t := 6) (look_int (t := 6) rfl (by first | omega | simp)) (.cons (t := 7) (look_int (t := 7) rfl (by first | omega | simp)) (.nil)))))), q47, (nw44.mono (by omega) (by omega)), rfl, by simp [hos], hlm.append (Lm.single hX.1 hX.2), by omega, hv2, hl3⟩
 ·
  refine sx_guardT rfl rfl rfl ?_
  refine sm rfl rfl rfl rfl ?_
  refine sx_guardT rfl rfl rfl ?_
  refine sm rfl rfl rfl rfl ?_
  refine sx_guardT rfl rfl rfl ?_
  have f48 := hvb0.ext cs3
  have f49 := f48.chg cwl7 (by omega)
  refine sx_pure rfl rfl rfl (px_len rfl Try.underlying22 f49) ?_
  refine sx_guardT rfl rfl rfl ?_
  refine sx_pure rfl rfl rfl (px_lt rfl rfl) ?_
  refine sx_pure rfl rfl rfl (px_pick rfl rfl) ?_
  refine sm rfl rfl rfl rfl ?_
  refine sx_tmpP (t := 20) rfl (fun h82x1 => ?_) (fun h82x1 => ?_)
  ·
   refine sx_guardF rfl rfl rfl rfl rfl rfl ?_
   refine sx_guardF rfl rfl rfl rfl rfl rfl ?_
   refine sx_pure rfl rfl rfl (px_pick rfl rfl) ?_
   refine wl_nil (q_n (k9 _ _ ?_))
   refine sx_sub (Sub.cons (t := 0) rfl (.cons (t := 1) rfl (.cons (t := 5) rfl (.cons (t := 6) rfl (.cons (t := 7) rfl (.cons (t := 23) rfl (.nil))))))) ?_
   refine sx_condT rfl ?_
   refine sx_skip ?_
   refine q_n (k8 _ _ ?_)
   refine sx_seq fun K50 k50 => ?_
   refine sx_block ?_
   refine sx_seq fun K51 k51 => sx_region ?_
   refine sm rfl rfl rfl rfl ?_
   refine sa rfl rfl rfl rfl ?_
   refine wl_nil (q_n (k51 _ _ ?_))
   refine sx_seq fun K52 k52 => ?_
   refine sx_seq fun K53 k53 => sx_region ?_
   refine sm rfl rfl rfl rfl ?_
   refine sm rfl rfl rfl rfl ?_
   refine sx_pure rfl rfl rfl (px_len rfl Try.underlying22 f11) ?_
   refine sx_pure rfl rfl rfl (px_lt rfl rfl) ?_
   refine wl_nil (q_n (k53 _ _ ?_))
   refine sx_condP rfl (fun h84 => ?_) (fun h84 => ?_)
   ·
    refine sx_region ?_
    refine sm rfl rfl rfl rfl ?_
    refine sm rfl rfl rfl rfl ?_
    refine sm rfl rfl rfl rfl ?_
    refine sx_pure rfl rfl rfl (px_index1 (j := k) rfl rfl (by omega) Try.underlying22 Try.sizeOf3 f11 (by omega)) ?_
    refine sx_pure rfl rfl rfl (px_load rfl (f11.load1 (at_int (by omega)) Try.isAgg3)) ?_
    refine sx_pure rfl rfl rfl (px_add rfl rfl (by omega)) ?_
    refine sa rfl rfl rfl rfl ?_
    refine wl_nil (q_n (k52 _ _ ?_))
    refine sx_sub (Sub.cons (t := 0) rfl (.cons (t := 1) rfl (.cons (t := 5) rfl (.cons (t := 6) rfl (.cons (t := 7) rfl (.cons (t := 8) rfl (.nil))))))) ?_
    refine sx_seq fun K54 k54 => ?_
    refine sx_seq fun K55 k55 => sx_region ?_
    refine sm rfl rfl rfl rfl ?_
    refine sm rfl rfl rfl rfl ?_
    refine sx_pure rfl rfl rfl (px_len rfl Try.underlying22 f49) ?_
    refine sx_pure rfl rfl rfl (px_lt rfl rfl) ?_
    refine wl_nil (q_n (k55 _ _ ?_))
    refine sx_condP rfl (fun h87 => ?_) (fun h87 => ?_)
    ·
     refine sx_region ?_
     refine sm rfl rfl rfl rfl ?_
     refine sm rfl rfl rfl rfl ?_
     refine sm rfl rfl rfl rfl ?_
     refine sx_pure rfl rfl rfl (px_index1 (j := k) rfl rfl (by omega) Try.underlying22 Try.sizeOf3 f49 (by omega)) ?_
     refine sx_pure rfl rfl rfl (px_load rfl (f49.load1 (at_int (by omega)) Try.isAgg3)) ?_
     refine sx_pure rfl rfl rfl (px_add rfl rfl (by omega)) ?_
     refine sa rfl rfl rfl rfl ?_
     refine wl_nil (q_n (k54 _ _ ?_))
     refine sx_sub (Sub.cons (t := 0) rfl (.cons (t := 1) rfl (.cons (t := 5) rfl (.cons (t := 6) rfl (.cons (t := 7) rfl (.cons (t := 8) rfl (.nil))))))) ?_
     refine sx_seq fun K56 k56 => sx_region ?_
     refine sm rfl rfl rfl rfl ?_
     refine sm rfl rfl rfl rfl ?_
     refine sx_pure rfl rfl rfl (px_rem rfl rfl (by omega) (by omega)) ?_
     refine sx_lit1 rfl xelt22 rfl rfl (fun s57 ws57 ss57 fs57 cs57 => ?_)
     have ns57 := Own.norm (f := (Value.int .i64)) (zs := [((((c : Nat) : Int) + ((dg m).getD k 0)) + ((dg n).getD k 0)) % 1000000000]) fs57
     have zws57 := cs57.size
     have f59 := hs_s.ext cs57
     refine sx_append rfl xelt22 rfl rfl f59 ns57.sv one_int (by omega) (by simp only [List.length_cons, List.length_nil]; omega) (by unfold maxLen; simp only [List.length_cons, List.length_nil]; omega) (fun a58 w58 fw58 cw58 => ?_)
     have nw58 := Own.app (f := (Value.int .i64)) (a := os) (b := [((((c : Nat) : Int) + ((dg m).getD k 0)) + ((dg n).getD k 0)) % 1000000000]) fw58
     have zw58 := cw58.size
     refine sa rfl rfl rfl rfl ?_
     refine wl_nil (q_n (k56 _ _ ?_))
     refine sx_region ?_
     refine sm rfl rfl rfl rfl ?_
     refine sx_pure rfl rfl rfl (px_quo rfl rfl (by omega) (by omega) (by omega)) ?_
     refine sa rfl rfl rfl rfl ?_
     refine wl_nil ?_
     refine q_bn (q_n (k50 _ _ ?_))
     refine sx_region ?_
     refine sm rfl rfl rfl rfl ?_
     refine sx_pure rfl rfl rfl (px_add rfl rfl (by omega)) ?_
     refine sa rfl rfl rfl rfl ?_
     refine wl_nil ?_
     have q60 := Chg.step (l := w.heap.size) (h := ws3.heap.size) cwl7 cs57 (by omega)
     have q61 := Chg.step (l := w.heap.size) (h := ws3.heap.size) q60 cw58 (by omega)
     have hs : (((((c : Nat) : Int) + ((dg m).getD k 0)) + ((dg n).getD k 0)) : Int) = ((c : Nat) : Int) + (((dg m).getD k 0).toNat : Nat) + (((dg n).getD k 0).toNat : Nat) := by omega
     have hv2 : vl (os ++ [(((((c : Nat) : Int) + ((dg m).getD k 0)) + ((dg n).getD k 0))) % 1000000000]) + Bs ^ (k + 1) * ((((((c : Nat) : Int) + ((dg m).getD k 0)) + ((dg n).getD k 0))) / 1000000000 : Int).toNat = vl ((dg m).take (k + 1)) + vl ((dg n).take (k + 1)) := by
      rw [vl_concat, hos, vl_take_succ', vl_take_succ', Nat.pow_succ]
      exact add_step hs hv
     have hX := mod_bd (s := ((((c : Nat) : Int) + ((dg m).getD k 0)) + ((dg n).getD k 0))) (by omega)
     have hl3 : k + 1 ≤ max (dg m).length (dg n).length ∨ (((((((c : Nat) : Int) + ((dg m).getD k 0)) + ((dg n).getD k 0))) / 1000000000 : Int).toNat = 0 ∧ k + 1 = max (dg m).length (dg n).length + 1 ∧ Bs ^ (k + 1 - 1) ≤ vl (os ++ [(((((c : Nat) : Int) + ((dg m).getD k 0)) + ((dg n).getD k 0))) % 1000000000])) := by
      by_cases hkM : k + 1 ≤ max (dg m).length (dg n).length
      · exact .inl hkM
      · first
       | (exfalso; omega)
       | (refine .inr ⟨by omega, by omega, ?_⟩; rw [vl_concat, hos, Nat.add_sub_cancel, show (((((c : Nat) : Int) + ((dg m).getD k 0)) + ((dg n).getD k 0))) % 1000000000 = 1 by omega]; exact Nat.le_trans (by simp) (Nat.le_add_left _ _))
     exact fun a ha => ⟨_, by omega, (k + 1), a58, (os ++ ([((((c : Nat) : Int) + ((dg m).getD k 0)) + ((dg n).getD k 0)) % 1000000000])), ((((((c : Nat) : Int) + ((dg m).getD k 0)) + ((dg n).getD k 0))) / 1000000000 : Int).toNat, ha.sub (Sub.cons (t := 0) rfl (.cons (t := 1) rfl (.cons (t := 5) rfl (.cons (t := 6) (look_int (t := 6) rfl (by first | omega | simp)) (.cons (t := 7) (look_int (t := 7) rfl (by first | omega | simp)) (.nil)))))), q61, (nw58.mono (by omega) (by omega)), rfl, by simp [hos], hlm.append (Lm.single hX.1 hX.2), by omega, hv2, hl3⟩
    ·
     have gn := getD_ge (zs := dg n) (k := k) (by omega)
     refine sx_skip ?_
     refine q_n (k54 _ _ ?_)
     refine sx_seq fun K62 k62 => sx_region ?_
     refine sm rfl rfl rfl rfl ?_
     refine sm rfl rfl rfl rfl ?_
     refine sx_pure rfl rfl rfl (px_rem rfl rfl (by omega) (by omega)) ?_
     refine sx_lit1 rfl xelt22 rfl rfl (fun s63 ws63 ss63 fs63 cs63 => ?_)
     have ns63 := Own.norm (f := (Value.int .i64)) (zs := [(((c : Nat) : Int) + ((dg m).getD k 0)) % 1000000000]) fs63
     have zws63 := cs63.size
     have f65 := hs_s.ext cs63
     refine sx_append rfl xelt22 rfl rfl f65 ns63.sv one_int (by omega) (by simp only [List.length_cons, List.length_nil]; omega) (by unfold maxLen; simp only [List.length_cons, List.length_nil]; omega) (fun a64 w64 fw64 cw64 => ?_)
     have nw64 := Own.app (f := (Value.int .i64)) (a := os) (b := [(((c : Nat) : Int) + ((dg m).getD k 0)) % 1000000000]) fw64
     have zw64 := cw64.size
     refine sa rfl rfl rfl rfl ?_
     refine wl_nil (q_n (k62 _ _ ?_))
     refine sx_sub (Sub.cons (t := 0) rfl (.cons (t := 1) rfl (.cons (t := 5) rfl (.cons (t := 6) rfl (.cons (t := 7) rfl (.cons (t := 8) rfl (.nil))))))) ?_
     refine sx_region ?_
     refine sm rfl rfl rfl rfl ?_
     refine sx_pure rfl rfl rfl (px_quo rfl rfl (by omega) (by omega) (by omega)) ?_
     refine sa rfl rfl rfl rfl ?_
     refine wl_nil ?_
     refine q_bn (q_n (k50 _ _ ?_))
     refine sx_region ?_
     refine sm rfl rfl rfl rfl ?_
     refine sx_pure rfl rfl rfl (px_add rfl rfl (by omega)) ?_
     refine sa rfl rfl rfl rfl ?_
     refine wl_nil ?_
     have q66 := Chg.step (l := w.heap.size) (h := ws3.heap.size) cwl7 cs63 (by omega)
     have q67 := Chg.step (l := w.heap.size) (h := ws3.heap.size) q66 cw64 (by omega)
     have hs : ((((c : Nat) : Int) + ((dg m).getD k 0)) : Int) = ((c : Nat) : Int) + (((dg m).getD k 0).toNat : Nat) + (((dg n).getD k 0).toNat : Nat) := by omega
     have hv2 : vl (os ++ [((((c : Nat) : Int) + ((dg m).getD k 0))) % 1000000000]) + Bs ^ (k + 1) * (((((c : Nat) : Int) + ((dg m).getD k 0))) / 1000000000 : Int).toNat = vl ((dg m).take (k + 1)) + vl ((dg n).take (k + 1)) := by
      rw [vl_concat, hos, vl_take_succ', vl_take_succ', Nat.pow_succ]
      exact add_step hs hv
     have hX := mod_bd (s := (((c : Nat) : Int) + ((dg m).getD k 0))) (by omega)
     have hl3 : k + 1 ≤ max (dg m).length (dg n).length ∨ ((((((c : Nat) : Int) + ((dg m).getD k 0))) / 1000000000 : Int).toNat = 0 ∧ k + 1 = max (dg m).length (dg n).length + 1 ∧ Bs ^ (k + 1 - 1) ≤ vl (os ++ [((((c : Nat) : Int) + ((dg m).getD k 0))) % 1000000000])) := by
      by_cases hkM : k + 1 ≤ max (dg m).length (dg n).length
      · exact .inl hkM
      · first
       | (exfalso; omega)
       | (refine .inr ⟨by omega, by omega, ?_⟩; rw [vl_concat, hos, Nat.add_sub_cancel, show ((((c : Nat) : Int) + ((dg m).getD k 0))) % 1000000000 = 1 by omega]; exact Nat.le_trans (by simp) (Nat.le_add_left _ _))
     exact fun a ha => ⟨_, by omega, (k + 1), a64, (os ++ ([(((c : Nat) : Int) + ((dg m).getD k 0)) % 1000000000])), (((((c : Nat) : Int) + ((dg m).getD k 0))) / 1000000000 : Int).toNat, ha.sub (Sub.cons (t := 0) rfl (.cons (t := 1) rfl (.cons (t := 5) rfl (.cons (t := 6) (look_int (t := 6) rfl (by first | omega | simp)) (.cons (t := 7) (look_int (t := 7) rfl (by first | omega | simp)) (.nil)))))), q67, (nw64.mono (by omega) (by omega)), rfl, by simp [hos], hlm.append (Lm.single hX.1 hX.2), by omega, hv2, hl3⟩
   ·
    have gm := getD_ge (zs := dg m) (k := k) (by omega)
    refine sx_skip ?_
    refine q_n (k52 _ _ ?_)
    refine sx_seq fun K68 k68 => ?_
    refine sx_seq fun K69 k69 => sx_region ?_
    refine sm rfl rfl rfl rfl ?_
    refine sm rfl rfl rfl rfl ?_
    refine sx_pure rfl rfl rfl (px_len rfl Try.underlying22 f49) ?_
    refine sx_pure rfl rfl rfl (px_lt rfl rfl) ?_
    refine wl_nil (q_n (k69 _ _ ?_))
    refine sx_sub (Sub.cons (t := 0) rfl (.cons (t := 1) rfl (.cons (t := 5) rfl (.cons (t := 6) rfl (.cons (t := 7) rfl (.cons (t := 8) rfl (.cons (t := 40) rfl (.nil)))))))) ?_
    refine sx_condP rfl (fun h87 => ?_) (fun h87 => ?_)
    ·
     refine sx_region ?_
     refine sm rfl rfl rfl rfl ?_
     refine sm rfl rfl rfl rfl ?_
     refine sm rfl rfl rfl rfl ?_
     refine sx_pure rfl rfl rfl (px_index1 (j := k) rfl rfl (by omega) Try.underlying22 Try.sizeOf3 f49 (by omega)) ?_
     refine sx_pure rfl rfl rfl (px_load rfl (f49.load1 (at_int (by omega)) Try.isAgg3)) ?_
     refine sx_pure rfl rfl rfl (px_add rfl rfl (by omega)) ?_
     refine sa rfl rfl rfl rfl ?_
     refine wl_nil (q_n (k68 _ _ ?_))
     refine sx_seq fun K70 k70 => sx_region ?_
     refine sm rfl rfl rfl rfl ?_
     refine sm rfl rfl rfl rfl ?_
     refine sx_pure rfl rfl rfl (px_rem rfl rfl (by omega) (by omega)) ?_
     refine sx_lit1 rfl xelt22 rfl rfl (fun s71 ws71 ss71 fs71 cs71 => ?_)
     have ns71 := Own.norm (f := (Value.int .i64)) (zs := [(((c : Nat) : Int) + ((dg n).getD k 0)) % 1000000000]) fs71
     have zws71 := cs71.size
     have f73 := hs_s.ext cs71
     refine sx_append rfl xelt22 rfl rfl f73 ns71.sv one_int (by omega) (by simp only [List.length_cons, List.length_nil]; omega) (by unfold maxLen; simp only [List.length_cons, List.length_nil]; omega) (fun a72 w72 fw72 cw72 => ?_)
     have nw72 := Own.app (f := (Value.int .i64)) (a := os) (b := [(((c : Nat) : Int) + ((dg n).getD k 0)) % 1000000000]) fw72
     have zw72 := cw72.size
     refine sa rfl rfl rfl rfl ?_
     refine wl_nil (q_n (k70 _ _ ?_))
     refine sx_sub (Sub.cons (t := 0) rfl (.cons (t := 1) rfl (.cons (t := 5) rfl (.cons (t := 6) rfl (.cons (t := 7) rfl (.cons (t := 8) rfl (.nil))))))) ?_
     refine sx_region ?_
     refine sm rfl rfl rfl rfl ?_
     refine sx_pure rfl rfl rfl (px_quo rfl rfl (by omega) (by omega) (by omega)) ?_
     refine sa rfl rfl rfl rfl ?_
     refine wl_nil ?_
     refine q_bn (q_n (k50 _ _ ?_))
     refine sx_region ?_
     refine sm rfl rfl rfl rfl ?_
     refine sx_pure rfl rfl rfl (px_add rfl rfl (by omega)) ?_
     refine sa rfl rfl rfl rfl ?_
     refine wl_nil ?_
     have q74 := Chg.step (l := w.heap.size) (h := ws3.heap.size) cwl7 cs71 (by omega)
     have q75 := Chg.step (l := w.heap.size) (h := ws3.heap.size) q74 cw72 (by omega)
     have hs : ((((c : Nat) : Int) + ((dg n).getD k 0)) : Int) = ((c : Nat) : Int) + (((dg m).getD k 0).toNat : Nat) + (((dg n).getD k 0).toNat : Nat) := by omega
     have hv2 : vl (os ++ [((((c : Nat) : Int) + ((dg n).getD k 0))) % 1000000000]) + Bs ^ (k + 1) * (((((c : Nat) : Int) + ((dg n).getD k 0))) / 1000000000 : Int).toNat = vl ((dg m).take (k + 1)) + vl ((dg n).take (k + 1)) := by
      rw [vl_concat, hos, vl_take_succ', vl_take_succ', Nat.pow_succ]
      exact add_step hs hv
     have hX := mod_bd (s := (((c : Nat) : Int) + ((dg n).getD k 0))) (by omega)
     have hl3 : k + 1 ≤ max (dg m).length (dg n).length ∨ ((((((c : Nat) : Int) + ((dg n).getD k 0))) / 1000000000 : Int).toNat = 0 ∧ k + 1 = max (dg m).length (dg n).length + 1 ∧ Bs ^ (k + 1 - 1) ≤ vl (os ++ [((((c : Nat) : Int) + ((dg n).getD k 0))) % 1000000000])) := by
      by_cases hkM : k + 1 ≤ max (dg m).length (dg n).length
      · exact .inl hkM
      · first
       | (exfalso; omega)
       | (refine .inr ⟨by omega, by omega, ?_⟩; rw [vl_concat, hos, Nat.add_sub_cancel, show ((((c : Nat) : Int) + ((dg n).getD k 0))) % 1000000000 = 1 by omega]; exact Nat.le_trans (by simp) (Nat.le_add_left _ _))
     exact fun a ha => ⟨_, by omega, (k + 1), a72, (os ++ ([(((c : Nat) : Int) + ((dg n).getD k 0)) % 1000000000])), (((((c : Nat) : Int) + ((dg n).getD k 0))) / 1000000000 : Int).toNat, ha.sub (Sub.cons (t := 0) rfl (.cons (t := 1) rfl (.cons (t := 5) rfl (.cons (t := 6) (look_int (t := 6) rfl (by first | omega | simp)) (.cons (t := 7) (look_int (t := 7) rfl (by first | omega | simp)) (.nil)))))), q75, (nw72.mono (by omega) (by omega)), rfl, by simp [hos], hlm.append (Lm.single hX.1 hX.2), by omega, hv2, hl3⟩
    ·
     have gn := getD_ge (zs := dg n) (k := k) (by omega)
     refine sx_skip ?_
     refine q_n (k68 _ _ ?_)
     refine sx_seq fun K76 k76 => sx_region ?_
     refine sm rfl rfl rfl rfl ?_
     refine sm rfl rfl rfl rfl ?_
     refine sx_pure rfl rfl rfl (px_rem rfl rfl (by omega) (by omega)) ?_
     refine sx_lit1 rfl xelt22 rfl rfl (fun s77 ws77 ss77 fs77 cs77 => ?_)
     have ns77 := Own.norm (f := (Value.int .i64)) (zs := [((c : Nat) : Int) % 1000000000]) fs77
     have zws77 := cs77.size
     have f79 := hs_s.ext cs77
     refine sx_append rfl xelt22 rfl rfl f79 ns77.sv one_int (by omega) (by simp only [List.length_cons, List.length_nil]; omega) (by unfold maxLen; simp only [List.length_cons, List.length_nil]; omega) (fun a78 w78 fw78 cw78 => ?_)
     have nw78 := Own.app (f := (Value.int .i64)) (a := os) (b := [((c : Nat) : Int) % 1000000000]) fw78
     have zw78 := cw78.size
     refine sa rfl rfl rfl rfl ?_
     refine wl_nil (q_n (k76 _ _ ?_))
     refine sx_region ?_
     refine sm rfl rfl rfl rfl ?_
     refine sx_pure rfl rfl rfl (px_quo rfl rfl (by omega) (by omega) (by omega)) ?_
     refine sa rfl rfl rfl rfl ?_
     refine wl_nil ?_
     refine q_bn (q_n (k50 _ _ ?_))
     refine sx_region ?_
     refine sm rfl rfl rfl rfl ?_
     refine sx_pure rfl rfl rfl (px_add rfl rfl (by omega)) ?_
     refine sa rfl rfl rfl rfl ?_
     refine wl_nil ?_
     have q80 := Chg.step (l := w.heap.size) (h := ws3.heap.size) cwl7 cs77 (by omega)
     have q81 := Chg.step (l := w.heap.size) (h := ws3.heap.size) q80 cw78 (by omega)
     have hs : (((c : Nat) : Int) : Int) = ((c : Nat) : Int) + (((dg m).getD k 0).toNat : Nat) + (((dg n).getD k 0).toNat : Nat) := by omega
     have hv2 : vl (os ++ [(((c : Nat) : Int)) % 1000000000]) + Bs ^ (k + 1) * ((((c : Nat) : Int)) / 1000000000 : Int).toNat = vl ((dg m).take (k + 1)) + vl ((dg n).take (k + 1)) := by
      rw [vl_concat, hos, vl_take_succ', vl_take_succ', Nat.pow_succ]
      exact add_step hs hv
     have hX := mod_bd (s := ((c : Nat) : Int)) (by omega)
     have hl3 : k + 1 ≤ max (dg m).length (dg n).length ∨ (((((c : Nat) : Int)) / 1000000000 : Int).toNat = 0 ∧ k + 1 = max (dg m).length (dg n).length + 1 ∧ Bs ^ (k + 1 - 1) ≤ vl (os ++ [(((c : Nat) : Int)) % 1000000000])) := by
      by_cases hkM : k + 1 ≤ max (dg m).length (dg n).length
      · exact .inl hkM
      · first
       | (exfalso; omega)
       | (refine .inr ⟨by omega, by omega, ?_⟩; rw [vl_concat, hos, Nat.add_sub_cancel, show (((c : Nat) : Int)) % 1000000000 = 1 by omega]; exact Nat.le_trans (by simp) (Nat.le_add_left _ _))
     exact fun a ha => ⟨_, by omega, (k + 1), a78, (os ++ ([((c : Nat) : Int) % 1000000000])), ((((c : Nat) : Int)) / 1000000000 : Int).toNat, ha.sub (Sub.cons (t := 0) rfl (.cons (t := 1) rfl (.cons (t := 5) rfl (.cons (t := 6) (look_int (t := 6) rfl (by first | omega | simp)) (.cons (t := 7) (look_int (t := 7) rfl (by first | omega | simp)) (.nil)))))), q81, (nw78.mono (by omega) (by omega)), rfl, by simp [hos], hlm.append (Lm.single hX.1 hX.2), by omega, hv2, hl3⟩
  ·
   refine sx_guardT rfl rfl rfl ?_
   refine sm rfl rfl rfl rfl ?_
   refine sx_guardT rfl rfl rfl ?_
   refine sx_pure rfl rfl rfl (px_gt rfl rfl) ?_
   refine sx_pure rfl rfl rfl (px_pick rfl rfl) ?_
   refine wl_nil (q_n (k9 _ _ ?_))
   refine sx_sub (Sub.cons (t := 0) rfl (.cons (t := 1) rfl (.cons (t := 5) rfl (.cons (t := 6) rfl (.cons (t := 7) rfl (.cons (t := 23) rfl (.nil))))))) ?_
   refine sx_condP rfl (fun h82x2 => ?_) (fun h82x2 => ?_)
   ·
    refine sx_skip ?_
    refine q_n (k8 _ _ ?_)
    refine sx_seq fun K82 k82 => ?_
    refine sx_block ?_
    refine sx_seq fun K83 k83 => sx_region ?_
    refine sm rfl rfl rfl rfl ?_
    refine sa rfl rfl rfl rfl ?_
    refine wl_nil (q_n (k83 _ _ ?_))
    refine sx_seq fun K84 k84 => ?_
    refine sx_seq fun K85 k85 => sx_region ?_
    refine sm rfl rfl rfl rfl ?_
    refine sm rfl rfl rfl rfl ?_
    refine sx_pure rfl rfl rfl (px_len rfl Try.underlying22 f11) ?_
    refine sx_pure rfl rfl rfl (px_lt rfl rfl) ?_
    refine wl_nil (q_n (k85 _ _ ?_))
    refine sx_condP rfl (fun h84 => ?_) (fun h84 => ?_)
    ·
     refine sx_region ?_
     refine sm rfl rfl rfl rfl ?_
     refine sm rfl rfl rfl rfl ?_
     refine sm rfl rfl rfl rfl ?_
     refine sx_pure rfl rfl rfl (px_index1 (j := k) rfl rfl (by omega) Try.underlying22 Try.sizeOf3 f11 (by omega)) ?_
     refine sx_pure rfl rfl rfl (px_load rfl (f11.load1 (at_int (by omega)) Try.isAgg3)) ?_
     refine sx_pure rfl rfl rfl (px_add rfl rfl (by omega)) ?_
     refine sa rfl rfl rfl rfl ?_
     refine wl_nil (q_n (k84 _ _ ?_))
     refine sx_sub (Sub.cons (t := 0) rfl (.cons (t := 1) rfl (.cons (t := 5) rfl (.cons (t := 6) rfl (.cons (t := 7) rfl (.cons (t := 8) rfl (.nil))))))) ?_
     refine sx_seq fun K86 k86 => ?_
     refine sx_seq fun K87 k87 => sx_region ?_
     refine sm rfl rfl rfl rfl ?_
     refine sm rfl rfl rfl rfl ?_
     refine sx_pure rfl rfl rfl (px_len rfl Try.underlying22 f49) ?_
     refine sx_pure rfl rfl rfl (px_lt rfl rfl) ?_
     refine wl_nil (q_n (k87 _ _ ?_))
     refine sx_condP rfl (fun h87 => ?_) (fun h87 => ?_)
     ·
      refine sx_region ?_
      refine sm rfl rfl rfl rfl ?_
      refine sm rfl rfl rfl rfl ?_
      refine sm rfl rfl rfl rfl ?_
      refine sx_pure rfl rfl rfl (px_index1 (j := k) rfl rfl (by omega) Try.underlying22 Try.sizeOf3 f49 (by omega)) ?_
      refine sx_pure rfl rfl rfl (px_load rfl (f49.load1 (at_int (by omega)) Try.isAgg3)) ?_
      refine sx_pure rfl rfl rfl (px_add rfl rfl (by omega)) ?_
      refine sa rfl rfl rfl rfl ?_
      refine wl_nil (q_n (k86 _ _ ?_))
      refine sx_sub (Sub.cons (t := 0) rfl (.cons (t := 1) rfl (.cons (t := 5) rfl (.cons (t := 6) rfl (.cons (t := 7) rfl (.cons (t := 8) rfl (.nil))))))) ?_
      refine sx_seq fun K88 k88 => sx_region ?_
      refine sm rfl rfl rfl rfl ?_
      refine sm rfl rfl rfl rfl ?_
      refine sx_pure rfl rfl rfl (px_rem rfl rfl (by omega) (by omega)) ?_
      refine sx_lit1 rfl xelt22 rfl rfl (fun s89 ws89 ss89 fs89 cs89 => ?_)
      have ns89 := Own.norm (f := (Value.int .i64)) (zs := [((((c : Nat) : Int) + ((dg m).getD k 0)) + ((dg n).getD k 0)) % 1000000000]) fs89
      have zws89 := cs89.size
      have f91 := hs_s.ext cs89
      refine sx_append rfl xelt22 rfl rfl f91 ns89.sv one_int (by omega) (by simp only [List.length_cons, List.length_nil]; omega) (by unfold maxLen; simp only [List.length_cons, List.length_nil]; omega) (fun a90 w90 fw90 cw90 => ?_)
      have nw90 := Own.app (f := (Value.int .i64)) (a := os) (b := [((((c : Nat) : Int) + ((dg m).getD k 0)) + ((dg n).getD k 0)) % 1000000000]) fw90
      have zw90 := cw90.size
      refine sa rfl rfl rfl rfl ?_
      refine wl_nil (q_n (k88 _ _ ?_))
      refine sx_region ?_
      refine sm rfl rfl rfl rfl ?_
      refine sx_pure rfl rfl rfl (px_quo rfl rfl (by omega) (by omega) (by omega)) ?_
      refine sa rfl rfl rfl rfl ?_
      refine wl_nil ?_
      refine q_bn (q_n (k82 _ _ ?_))
      refine sx_region ?_
      refine sm rfl rfl rfl rfl ?_
      refine sx_pure rfl rfl rfl (px_add rfl rfl (by omega)) ?_
      refine sa rfl rfl rfl rfl ?_
      refine wl_nil ?_
      have q92 := Chg.step (l := w.heap.size) (h := ws3.heap.size) cwl7 cs89 (by omega)
      have q93 := Chg.step (l := w.heap.size) (h := ws3.heap.size) q92 cw90 (by omega)
      have hs : (((((c : Nat) : Int) + ((dg m).getD k 0)) + ((dg n).getD k 0)) : Int) = ((c : Nat) : Int) + (((dg m).getD k 0).toNat : Nat) + (((dg n).getD k 0).toNat : Nat) := by omega
      have hv2 : vl (os ++ [(((((c : Nat) : Int) + ((dg m).getD k 0)) + ((dg n).getD k 0))) % 1000000000]) + Bs ^ (k + 1) * ((((((c : Nat) : Int) + ((dg m).getD k 0)) + ((dg n).getD k 0))) / 1000000000 : Int).toNat = vl ((dg m).take (k + 1)) + vl ((dg n).take (k + 1)) := by
       rw [vl_concat, hos, vl_take_succ', vl_take_succ', Nat.pow_succ]
       exact add_step hs hv
      have hX := mod_bd (s := ((((c : Nat) : Int) + ((dg m).getD k 0)) + ((dg n).getD k 0))) (by omega)
      have hl3 : k + 1 ≤ max (dg m).length (dg n).length ∨ (((((((c : Nat) : Int) + ((dg m).getD k 0)) + ((dg n).getD k 0))) / 1000000000 : Int).toNat = 0 ∧ k + 1 = max (dg m).length (dg n).length + 1 ∧ Bs ^ (k + 1 - 1) ≤ vl (os ++ [(((((c : Nat) : Int) + ((dg m).getD k 0)) + ((dg n).getD k 0))) % 1000000000])) := by
       by_cases hkM : k + 1 ≤ max (dg m).length (dg n).length
       · exact .inl hkM
       · first
        | (exfalso; omega)
        | (refine .inr ⟨by omega, by omega, ?_⟩; rw [vl_concat, hos, Nat.add_sub_cancel, show (((((c : Nat) : Int) + ((dg m).getD k 0)) + ((dg n).getD k 0))) % 1000000000 = 1 by omega]; exact Nat.le_trans (by simp) (Nat.le_add_left _ _))
      exact fun a ha => ⟨_, by omega, (k + 1), a90, (os ++ ([((((c : Nat) : Int) + ((dg m).getD k 0)) + ((dg n).getD k 0)) % 1000000000])), ((((((c : Nat) : Int) + ((dg m).getD k 0)) + ((dg n).getD k 0))) / 1000000000 : Int).toNat, ha.sub (Sub.cons (t := 0) rfl (.cons (t := 1) rfl (.cons (t := 5) rfl (.cons (t := 6) (look_int (t := 6) rfl (by first | omega | simp)) (.cons (t := 7) (look_int (t := 7) rfl (by first | omega | simp)) (.nil)))))), q93, (nw90.mono (by omega) (by omega)), rfl, by simp [hos], hlm.append (Lm.single hX.1 hX.2), by omega, hv2, hl3⟩
     ·
      have gn := getD_ge (zs := dg n) (k := k) (by omega)
      refine sx_skip ?_
      refine q_n (k86 _ _ ?_)
      refine sx_seq fun K94 k94 => sx_region ?_
      refine sm rfl rfl rfl rfl ?_
      refine sm rfl rfl rfl rfl ?_
      refine sx_pure rfl rfl rfl (px_rem rfl rfl (by omega) (by omega)) ?_
      refine sx_lit1 rfl xelt22 rfl rfl (fun s95 ws95 ss95 fs95 cs95 => ?_)
      have ns95 := Own.norm (f := (Value.int .i64)) (zs := [(((c : Nat) : Int) + ((dg m).getD k 0)) % 1000000000]) fs95
      have zws95 := cs95.size
      have f97 := hs_s.ext cs95
      refine sx_append rfl xelt22 rfl rfl f97 ns95.sv one_int (by omega) (by simp only [List.length_cons, List.length_nil]; omega) (by unfold maxLen; simp only [List.length_cons, List.length_nil]; omega) (fun a96 w96 fw96 cw96 => ?_)
      have nw96 := Own.app (f := (Value.int .i64)) (a := os) (b := [(((c : Nat) : Int) + ((dg m).getD k 0)) % 1000000000]) fw96
      have zw96 := cw96.size
      refine sa rfl rfl rfl rfl ?_
      refine wl_nil (q_n (k94 _ _ ?_))
      refine sx_sub (Sub.cons (t := 0) rfl (.cons (t := 1) rfl (.cons (t := 5) rfl (.cons (t := 6) rfl (.cons (t := 7) rfl (.cons (t := 8) rfl (.nil))))))) ?_
      refine sx_region ?_
      refine sm rfl rfl rfl rfl ?_
      refine sx_pure rfl rfl rfl (px_quo rfl rfl (by omega) (by omega) (by omega)) ?_
      refine sa rfl rfl rfl rfl ?_
      refine wl_nil ?_
      refine q_bn (q_n (k82 _ _ ?_))
      refine sx_region ?_
      refine sm rfl rfl rfl rfl ?_
      refine sx_pure rfl rfl rfl (px_add rfl rfl (by omega)) ?_
      refine sa rfl rfl rfl rfl ?_
      refine wl_nil ?_
      have q98 := Chg.step (l := w.heap.size) (h := ws3.heap.size) cwl7 cs95 (by omega)
      have q99 := Chg.step (l := w.heap.size) (h := ws3.heap.size) q98 cw96 (by omega)
      have hs : ((((c : Nat) : Int) + ((dg m).getD k 0)) : Int) = ((c : Nat) : Int) + (((dg m).getD k 0).toNat : Nat) + (((dg n).getD k 0).toNat : Nat) := by omega
      have hv2 : vl (os ++ [((((c : Nat) : Int) + ((dg m).getD k 0))) % 1000000000]) + Bs ^ (k + 1) * (((((c : Nat) : Int) + ((dg m).getD k 0))) / 1000000000 : Int).toNat = vl ((dg m).take (k + 1)) + vl ((dg n).take (k + 1)) := by
       rw [vl_concat, hos, vl_take_succ', vl_take_succ', Nat.pow_succ]
       exact add_step hs hv
      have hX := mod_bd (s := (((c : Nat) : Int) + ((dg m).getD k 0))) (by omega)
      have hl3 : k + 1 ≤ max (dg m).length (dg n).length ∨ ((((((c : Nat) : Int) + ((dg m).getD k 0))) / 1000000000 : Int).toNat = 0 ∧ k + 1 = max (dg m).length (dg n).length + 1 ∧ Bs ^ (k + 1 - 1) ≤ vl (os ++ [((((c : Nat) : Int) + ((dg m).getD k 0))) % 1000000000])) := by
       by_cases hkM : k + 1 ≤ max (dg m).length (dg n).length
       · exact .inl hkM
       · first
        | (exfalso; omega)
        | (refine .inr ⟨by omega, by omega, ?_⟩; rw [vl_concat, hos, Nat.add_sub_cancel, show ((((c : Nat) : Int) + ((dg m).getD k 0))) % 1000000000 = 1 by omega]; exact Nat.le_trans (by simp) (Nat.le_add_left _ _))
      exact fun a ha => ⟨_, by omega, (k + 1), a96, (os ++ ([(((c : Nat) : Int) + ((dg m).getD k 0)) % 1000000000])), (((((c : Nat) : Int) + ((dg m).getD k 0))) / 1000000000 : Int).toNat, ha.sub (Sub.cons (t := 0) rfl (.cons (t := 1) rfl (.cons (t := 5) rfl (.cons (t := 6) (look_int (t := 6) rfl (by first | omega | simp)) (.cons (t := 7) (look_int (t := 7) rfl (by first | omega | simp)) (.nil)))))), q99, (nw96.mono (by omega) (by omega)), rfl, by simp [hos], hlm.append (Lm.single hX.1 hX.2), by omega, hv2, hl3⟩
    ·
     have gm := getD_ge (zs := dg m) (k := k) (by omega)
     refine sx_skip ?_
     refine q_n (k84 _ _ ?_)
     refine sx_seq fun K100 k100 => ?_
     refine sx_seq fun K101 k101 => sx_region ?_
     refine sm rfl rfl rfl rfl ?_
     refine sm rfl rfl rfl rfl ?_
     refine sx_pure rfl rfl rfl (px_len rfl Try.underlying22 f49) ?_
     refine sx_pure rfl rfl rfl (px_lt rfl rfl) ?_
     refine wl_nil (q_n (k101 _ _ ?_))
     refine sx_sub (Sub.cons (t := 0) rfl (.cons (t := 1) rfl (.cons (t := 5) rfl (.cons (t := 6) rfl (.cons (t := 7) rfl (.cons (t := 8) rfl (.cons (t := 40) rfl (.nil)))))))) ?_
     refine sx_condP rfl (fun h87 => ?_) (fun h87 => ?_)
     ·
      refine sx_region ?_
      refine sm rfl rfl rfl rfl ?_
      refine sm rfl rfl rfl rfl ?_
      refine sm rfl rfl rfl rfl ?_
      refine sx_pure rfl rfl rfl (px_index1 (j := k) rfl rfl (by omega) Try.underlying22 Try.sizeOf3 f49 (by omega)) ?_
      refine sx_pure rfl rfl rfl (px_load rfl (f49.load1 (at_int (by omega)) Try.isAgg3)) ?_
      refine sx_pure rfl rfl rfl (px_add rfl rfl (by omega)) ?_
      refine sa rfl rfl rfl rfl ?_
      refine wl_nil (q_n (k100 _ _ ?_))
      refine sx_seq fun K102 k102 => sx_region ?_
      refine sm rfl rfl rfl rfl ?_
      refine sm rfl rfl rfl rfl ?_
      refine sx_pure rfl rfl rfl (px_rem rfl rfl (by omega) (by omega)) ?_
      refine sx_lit1 rfl xelt22 rfl rfl (fun s103 ws103 ss103 fs103 cs103 => ?_)
      have ns103 := Own.norm (f := (Value.int .i64)) (zs := [(((c : Nat) : Int) + ((dg n).getD k 0)) % 1000000000]) fs103
      have zws103 := cs103.size
      have f105 := hs_s.ext cs103
      refine sx_append rfl xelt22 rfl rfl f105 ns103.sv one_int (by omega) (by simp only [List.length_cons, List.length_nil]; omega) (by unfold maxLen; simp only [List.length_cons, List.length_nil]; omega) (fun a104 w104 fw104 cw104 => ?_)
      have nw104 := Own.app (f := (Value.int .i64)) (a := os) (b := [(((c : Nat) : Int) + ((dg n).getD k 0)) % 1000000000]) fw104
      have zw104 := cw104.size
      refine sa rfl rfl rfl rfl ?_
      refine wl_nil (q_n (k102 _ _ ?_))
      refine sx_sub (Sub.cons (t := 0) rfl (.cons (t := 1) rfl (.cons (t := 5) rfl (.cons (t := 6) rfl (.cons (t := 7) rfl (.cons (t := 8) rfl (.nil))))))) ?_
      refine sx_region ?_
      refine sm rfl rfl rfl rfl ?_
      refine sx_pure rfl rfl rfl (px_quo rfl rfl (by omega) (by omega) (by omega)) ?_
      refine sa rfl rfl rfl rfl ?_
      refine wl_nil ?_
      refine q_bn (q_n (k82 _ _ ?_))
      refine sx_region ?_
      refine sm rfl rfl rfl rfl ?_
      refine sx_pure rfl rfl rfl (px_add rfl rfl (by omega)) ?_
      refine sa rfl rfl rfl rfl ?_
      refine wl_nil ?_
      have q106 := Chg.step (l := w.heap.size) (h := ws3.heap.size) cwl7 cs103 (by omega)
      have q107 := Chg.step (l := w.heap.size) (h := ws3.heap.size) q106 cw104 (by omega)
      have hs : ((((c : Nat) : Int) + ((dg n).getD k 0)) : Int) = ((c : Nat) : Int) + (((dg m).getD k 0).toNat : Nat) + (((dg n).getD k 0).toNat : Nat) := by omega
      have hv2 : vl (os ++ [((((c : Nat) : Int) + ((dg n).getD k 0))) % 1000000000]) + Bs ^ (k + 1) * (((((c : Nat) : Int) + ((dg n).getD k 0))) / 1000000000 : Int).toNat = vl ((dg m).take (k + 1)) + vl ((dg n).take (k + 1)) := by
       rw [vl_concat, hos, vl_take_succ', vl_take_succ', Nat.pow_succ]
       exact add_step hs hv
      have hX := mod_bd (s := (((c : Nat) : Int) + ((dg n).getD k 0))) (by omega)
      have hl3 : k + 1 ≤ max (dg m).length (dg n).length ∨ ((((((c : Nat) : Int) + ((dg n).getD k 0))) / 1000000000 : Int).toNat = 0 ∧ k + 1 = max (dg m).length (dg n).length + 1 ∧ Bs ^ (k + 1 - 1) ≤ vl (os ++ [((((c : Nat) : Int) + ((dg n).getD k 0))) % 1000000000])) := by
       by_cases hkM : k + 1 ≤ max (dg m).length (dg n).length
       · exact .inl hkM
       · first
        | (exfalso; omega)
        | (refine .inr ⟨by omega, by omega, ?_⟩; rw [vl_concat, hos, Nat.add_sub_cancel, show ((((c : Nat) : Int) + ((dg n).getD k 0))) % 1000000000 = 1 by omega]; exact Nat.le_trans (by simp) (Nat.le_add_left _ _))
      exact fun a ha => ⟨_, by omega, (k + 1), a104, (os ++ ([(((c : Nat) : Int) + ((dg n).getD k 0)) % 1000000000])), (((((c : Nat) : Int) + ((dg n).getD k 0))) / 1000000000 : Int).toNat, ha.sub (Sub.cons (t := 0) rfl (.cons (t := 1) rfl (.cons (t := 5) rfl (.cons (t := 6) (look_int (t := 6) rfl (by first | omega | simp)) (.cons (t := 7) (look_int (t := 7) rfl (by first | omega | simp)) (.nil)))))), q107, (nw104.mono (by omega) (by omega)), rfl, by simp [hos], hlm.append (Lm.single hX.1 hX.2), by omega, hv2, hl3⟩
     ·
      have gn := getD_ge (zs := dg n) (k := k) (by omega)
      refine sx_skip ?_
      refine q_n (k100 _ _ ?_)
      refine sx_seq fun K108 k108 => sx_region ?_
      refine sm rfl rfl rfl rfl ?_
      refine sm rfl rfl rfl rfl ?_
      refine sx_pure rfl rfl rfl (px_rem rfl rfl (by omega) (by omega)) ?_
      refine sx_lit1 rfl xelt22 rfl rfl (fun s109 ws109 ss109 fs109 cs109 => ?_)
      have ns109 := Own.norm (f := (Value.int .i64)) (zs := [((c : Nat) : Int) % 1000000000]) fs109
      have zws109 := cs109.size
      have f111 := hs_s.ext cs109
      refine sx_append rfl xelt22 rfl rfl f111 ns109.sv one_int (by omega) (by simp only [List.length_cons, List.length_nil]; omega) (by unfold maxLen; simp only [List.length_cons, List.length_nil]; omega) (fun a110 w110 fw110 cw110 => ?_)
      have nw110 := Own.app (f := (Value.int .i64)) (a := os) (b := [((c : Nat) : Int) % 1000000000]) fw110
      have zw110 := cw110.size
      refine sa rfl rfl rfl rfl ?_
      refine wl_nil (q_n (k108 _ _ ?_))
      refine sx_region ?_
      refine sm rfl rfl rfl rfl ?_
      refine sx_pure rfl rfl rfl (px_quo rfl rfl (by omega) (by omega) (by omega)) ?_
      refine sa rfl rfl rfl rfl ?_
      refine wl_nil ?_
      refine q_bn (q_n (k82 _ _ ?_))
      refine sx_region ?_
      refine sm rfl rfl rfl rfl ?_
      refine sx_pure rfl rfl rfl (px_add rfl rfl (by omega)) ?_
      refine sa rfl rfl rfl rfl ?_
      refine wl_nil ?_
      have q112 := Chg.step (l := w.heap.size) (h := ws3.heap.size) cwl7 cs109 (by omega)
      have q113 := Chg.step (l := w.heap.size) (h := ws3.heap.size) q112 cw110 (by omega)
      have hs : (((c : Nat) : Int) : Int) = ((c : Nat) : Int) + (((dg m).getD k 0).toNat : Nat) + (((dg n).getD k 0).toNat : Nat) := by omega
      have hv2 : vl (os ++ [(((c : Nat) : Int)) % 1000000000]) + Bs ^ (k + 1) * ((((c : Nat) : Int)) / 1000000000 : Int).toNat = vl ((dg m).take (k + 1)) + vl ((dg n).take (k + 1)) := by
       rw [vl_concat, hos, vl_take_succ', vl_take_succ', Nat.pow_succ]
       exact add_step hs hv
      have hX := mod_bd (s := ((c : Nat) : Int)) (by omega)
      have hl3 : k + 1 ≤ max (dg m).length (dg n).length ∨ (((((c : Nat) : Int)) / 1000000000 : Int).toNat = 0 ∧ k + 1 = max (dg m).length (dg n).length + 1 ∧ Bs ^ (k + 1 - 1) ≤ vl (os ++ [(((c : Nat) : Int)) % 1000000000])) := by
       by_cases hkM : k + 1 ≤ max (dg m).length (dg n).length
       · exact .inl hkM
       · first
        | (exfalso; omega)
        | (refine .inr ⟨by omega, by omega, ?_⟩; rw [vl_concat, hos, Nat.add_sub_cancel, show (((c : Nat) : Int)) % 1000000000 = 1 by omega]; exact Nat.le_trans (by simp) (Nat.le_add_left _ _))
      exact fun a ha => ⟨_, by omega, (k + 1), a110, (os ++ ([((c : Nat) : Int) % 1000000000])), ((((c : Nat) : Int)) / 1000000000 : Int).toNat, ha.sub (Sub.cons (t := 0) rfl (.cons (t := 1) rfl (.cons (t := 5) rfl (.cons (t := 6) (look_int (t := 6) rfl (by first | omega | simp)) (.cons (t := 7) (look_int (t := 7) rfl (by first | omega | simp)) (.nil)))))), q113, (nw110.mono (by omega) (by omega)), rfl, by simp [hos], hlm.append (Lm.single hX.1 hX.2), by omega, hv2, hl3⟩
   ·
    refine sx_exit ?_
    refine q_e (q_e (q_bx (q_n (k5 _ _ ?_))))
    refine sx_seq fun K114 k114 => ?_
    have hc0 : c = 0 := by omega
    subst hc0
    rw [Nat.mul_zero, Nat.add_zero, vl_take_ge (by omega), vl_take_ge (by omega), vl_dg, vl_dg] at hv
    have hd : os = dg (m + n) := add_end hlm hos hv hlast (by omega)
    subst hd
    refine sx_region ?_
    refine sm rfl rfl rfl rfl ?_
    refine sa rfl rfl rfl rfl ?_
    refine wl_nil (q_n (k114 _ _ ?_))
    refine sx_retc ?_
    refine sx_ret1 Try.results53 rfl ?_
    have q115 := Chg.step (l := 0) (h := 0) (Chg.zero (l := 0) (h := 0) cs3) cwl7 (by omega)
    exact ⟨_, rfl, (Own.sv hs_s).mono (by omega) (by omega), q115⟩

theorem c_l02Add1 {w : World} {va : Value} {lva uva : Nat} {m : Nat} {vb : Value} {lvb uvb : Nat} {ys : List Int} (hva : Sl w lva uva va (dg m)) (hvb : Sl w lvb uvb vb (ys)) (hbm : (dg m).length ≤ 1000) (hy : ys = [1]) :
  Ret Try.prog 53 [va, vb] w fun v w' => ∃ s, v = s ∧ Sl w' (w.heap.size) (w'.heap.size) s (dg (m + 1)) ∧ Chg 0 0 w w' := by
 rw [hy, ← dg_1] at hvb; exact c_l02Add hva hvb hbm (by rw [dg_1]; simp)

theorem c_sNatEven {w : World} {va : Value} {lva uva : Nat} {m : Nat} (hva : Sl w lva uva va (dg m)) (hbm : (dg m).length ≤ 50) :
  Ret Try.prog 92 [va] w fun v w' => v = .bool (decide (¬ m % 2 = 1)) ∧ Chg 0 0 w w' := by
 have hva0 := hva.fit
 refine sx_enter Try.func92 rfl Try.ntmps92 (Nat.le_of_ble_eq_true rfl) ?_
 refine sx_seq fun K1 k1 => sx_region ?_
 refine sa rfl rfl rfl rfl ?_
 refine wl_nil (q_n (k1 _ _ ?_))
 refine sx_seq fun K2 k2 => sx_region ?_
 refine sm rfl rfl rfl rfl ?_
 refine sx_call rfl rfl Try.call84 (c_sNatOk hva0 (by omega)) (fun v3 w3 p3 => ?_)
 obtain ⟨rfl, c3⟩ := p3
 have zw3 := c3.size
 refine sm rfl rfl rfl rfl ?_
 have h117 : NOk (dg m) := NOk_dg (by omega)
 refine sx_tmpPT (t := 5) rfl h117 ?_
 refine sx_guardT rfl rfl rfl ?_
 refine sm rfl rfl rfl rfl ?_
 refine sx_guardT rfl rfl rfl ?_
 have f4 := hva0.ext c3
 refine sx_pure rfl rfl rfl (px_len rfl Try.underlying22 f4) ?_
 refine sx_guardT rfl rfl rfl ?_
 refine sx_pure rfl rfl rfl (px_eq rfl rfl) ?_
 refine sx_guardT rfl rfl rfl ?_
 refine sm rfl rfl rfl rfl ?_
 refine sx_tmpP (t := 9) rfl (fun h117x1 => ?_) (fun h117x1 => ?_)
 ·
  refine sx_guardF rfl rfl rfl rfl rfl rfl ?_
  refine sx_guardF rfl rfl rfl rfl rfl rfl ?_
  refine sx_guardF rfl rfl rfl rfl rfl rfl ?_
  refine sx_guardF rfl rfl rfl rfl rfl rfl ?_
  refine sx_guardF rfl rfl rfl rfl rfl rfl ?_
  refine sx_guardT rfl rfl rfl ?_
  refine sx_pure rfl rfl rfl (px_pick rfl rfl) ?_
  refine sx_pure rfl rfl rfl (px_pick rfl rfl) ?_
  refine sa rfl rfl rfl rfl ?_
  refine wl_nil (q_n (k2 _ _ ?_))
  refine sx_sub (Sub.cons (t := 2) rfl (.nil)) ?_
  refine sx_retc ?_
  refine sx_ret1 Try.results92 rfl ?_
  exact ⟨(by have hk := odd_dg (q := m); first | exact bTrue (hk.1 (.inl (by omega))) | exact bIff ⟨fun h => hk.1 (.inr h), fun h => (hk.2 h).resolve_left (by omega)⟩), c3⟩
 ·
  refine sx_guardT rfl rfl rfl ?_
  refine sm rfl rfl rfl rfl ?_
  refine sx_guardT rfl rfl rfl ?_
  refine sx_pure rfl rfl rfl (px_index1 (j := 0) rfl rfl (by omega) Try.underlying22 Try.sizeOf3 f4 (by omega)) ?_
  refine sx_guardT rfl rfl rfl ?_
  refine sx_pure rfl rfl rfl (px_load rfl (f4.load1 (at_int (by omega)) Try.isAgg3)) ?_
  refine sx_guardT rfl rfl rfl ?_
  refine sx_pure rfl rfl rfl (px_rem rfl rfl (by have := (Lm_dg m).getD 0; omega) (by omega)) ?_
  refine sx_guardT rfl rfl rfl ?_
  refine sx_pure rfl rfl rfl (px_eq rfl rfl) ?_
  refine sx_guardT rfl rfl rfl ?_
  refine sx_pure rfl rfl rfl (px_pick rfl rfl) ?_
  refine sx_pure rfl rfl rfl (px_pick rfl rfl) ?_
  refine sa rfl rfl rfl rfl ?_
  refine wl_nil (q_n (k2 _ _ ?_))
  refine sx_sub (Sub.cons (t := 2) rfl (.nil)) ?_
  refine sx_retc ?_
  refine sx_ret1 Try.results92 rfl ?_
  exact ⟨(by have hk := odd_dg (q := m); first | exact bTrue (hk.1 (.inl (by omega))) | exact bIff ⟨fun h => hk.1 (.inr h), fun h => (hk.2 h).resolve_left (by omega)⟩), c3⟩

theorem c_l06Away {w : World} {n : Bool} {vq : Value} {lvq uvq : Nat} {q : Nat} {vr : Value} {lvr uvr : Nat} {r : Nat} {vd : Value} {lvd uvd : Nat} {d : Nat} {m : Int} (hvq : Sl w lvq uvq vq (dg q)) (hvr : Sl w lvr uvr vr (dg r)) (hvd : Sl w lvd uvd vd (dg d)) (hbq : (dg q).length ≤ 50) (hbr : (dg r).length ≤ 390) (hbd : (dg d).length ≤ 390) (hm : 0 ≤ m ∧ m ≤ 6) :
  Ret Try.prog 52 [.bool n, vq, vr, vd, .int .i64 m] w fun v w' => v = .bool (awayB m n (cmpN (r + r) d) (decide (q % 2 = 1))) ∧ Chg 0 0 w w' := by
 have hvq0 := hvq.fit
 have hvr0 := hvr.fit
 have hvd0 := hvd.fit
 have lrr := len_add r r
 refine sx_enter Try.func52 rfl Try.ntmps52 (Nat.le_of_ble_eq_true rfl) ?_
 refine sx_seq fun K1 k1 => sx_region ?_
 refine sa rfl rfl rfl rfl ?_
 refine wl_nil (q_n (k1 _ _ ?_))
 refine sx_seq fun K2 k2 => sx_region ?_
 refine sm rfl rfl rfl rfl ?_
 refine sm rfl rfl rfl rfl ?_
 refine sx_call rfl rfl Try.call53 (c_l02Add hvr0 hvr0 (by omega) (by omega)) (fun v3 w3 p3 => ?_)
 obtain ⟨s3, rfl, os_3, c3⟩ := p3
 have zw3 := c3.size
 refine sm rfl rfl rfl rfl ?_
 have f4 := hvd0.ext c3
 refine sx_call rfl rfl Try.call85 (c_l02Cmp os_3 f4 (by omega)) (fun v5 w5 p5 => ?_)
 obtain ⟨rfl, c5⟩ := p5
 have zw5 := c5.size
 refine sa rfl rfl rfl rfl ?_
 refine wl_nil (q_n (k2 _ _ ?_))
 refine sx_seq fun K6 k6 => ?_
 refine sx_seq fun K7 k7 => sx_region ?_
 refine sm rfl rfl rfl rfl ?_
 refine wl_nil (q_n (k7 _ _ ?_))
 refine sx_block ?_
 refine sx_seq fun K8 k8 => sx_region ?_
 refine sx_pure rfl rfl rfl (px_eq rfl rfl) ?_
 refine sa rfl rfl rfl rfl ?_
 refine wl_nil (q_n (k8 _ _ ?_))
 refine sx_sub (Sub.cons (t := 0) rfl (.cons (t := 1) rfl (.cons (t := 10) rfl (.cons (t := 11) rfl (.cons (t := 17) rfl (.cons (t := 18) rfl (.nil))))))) ?_
 refine sx_condP rfl (fun h29 => ?_) (fun h29 => ?_)
 ·
  refine sx_seq fun K9 k9 => sx_region ?_
  refine sa rfl rfl rfl rfl ?_
  refine wl_nil (q_n (k9 _ _ ?_))
  refine sx_retc ?_
  refine q_br (q_r (sx_ret1 Try.results52 rfl ?_))
  have hcd := cmpL_dg (r + r) d
  exact ⟨by rw [← hcd]; simp_all [awayB], (c3.t c5)⟩
 ·
  refine sx_seq fun K10 k10 => sx_region ?_
  refine sx_pure rfl rfl rfl (px_eq rfl rfl) ?_
  refine sa rfl rfl rfl rfl ?_
  refine wl_nil (q_n (k10 _ _ ?_))
  refine sx_condP rfl (fun h31 => ?_) (fun h31 => ?_)
  ·
   refine sx_seq fun K11 k11 => sx_region ?_
   refine sa rfl rfl rfl rfl ?_
   refine wl_nil (q_n (k11 _ _ ?_))
   refine sx_retc ?_
   refine q_br (q_r (sx_ret1 Try.results52 rfl ?_))
   have hcd := cmpL_dg (r + r) d
   exact ⟨by rw [← hcd]; simp_all [awayB], (c3.t c5)⟩
  ·
   refine sx_seq fun K12 k12 => sx_region ?_
   refine sx_pure rfl rfl rfl (px_eq rfl rfl) ?_
   refine sa rfl rfl rfl rfl ?_
   refine wl_nil (q_n (k12 _ _ ?_))
   refine sx_condP rfl (fun h33 => ?_) (fun h33 => ?_)
   ·
    refine sx_seq fun K13 k13 => sx_region ?_
    refine sm rfl rfl rfl rfl ?_
    refine sa rfl rfl rfl rfl ?_
    refine wl_nil (q_n (k13 _ _ ?_))
    refine sx_retc ?_
    refine q_br (q_r (sx_ret1 Try.results52 rfl ?_))
    have hcd := cmpL_dg (r + r) d
    exact ⟨by rw [← hcd]; simp_all [awayB], (c3.t c5)⟩
   ·
    refine sx_seq fun K14 k14 => sx_region ?_
    refine sx_pure rfl rfl rfl (px_eq rfl rfl) ?_
    refine sa rfl rfl rfl rfl ?_
    refine wl_nil (q_n (k14 _ _ ?_))
    refine sx_condP rfl (fun h35 => ?_) (fun h35 => ?_)
    ·
     refine sx_seq fun K15 k15 => sx_region ?_
     refine sm rfl rfl rfl rfl ?_
     refine sx_pure rfl rfl rfl (px_not rfl) ?_
     refine sa rfl rfl rfl rfl ?_
     refine wl_nil (q_n (k15 _ _ ?_))
     refine sx_retc ?_
     refine q_br (q_r (sx_ret1 Try.results52 rfl ?_))
     have hcd := cmpL_dg (r + r) d
     exact ⟨by rw [← hcd]; simp_all [awayB], (c3.t c5)⟩
    ·
     refine sx_seq fun K16 k16 => sx_region ?_
     refine sx_pure rfl rfl rfl (px_eq rfl rfl) ?_
     refine sa rfl rfl rfl rfl ?_
     refine wl_nil (q_n (k16 _ _ ?_))
     refine sx_condP rfl (fun h37 => ?_) (fun h37 => ?_)
     ·
      refine sx_seq fun K17 k17 => sx_region ?_
      refine sm rfl rfl rfl rfl ?_
      refine sx_pure rfl rfl rfl (px_gt rfl rfl) ?_
      refine sa rfl rfl rfl rfl ?_
      refine wl_nil (q_n (k17 _ _ ?_))
      refine sx_sub (Sub.cons (t := 1) rfl (.cons (t := 10) rfl (.cons (t := 11) rfl (.nil)))) ?_
      refine sx_retc ?_
      refine q_br (q_r (sx_ret1 Try.results52 rfl ?_))
      have hcd := cmpL_dg (r + r) d
      exact ⟨by rw [← hcd]; simp_all [awayB], (c3.t c5)⟩
     ·
      refine sx_seq fun K18 k18 => sx_region ?_
      refine sx_pure rfl rfl rfl (px_eq rfl rfl) ?_
      refine sa rfl rfl rfl rfl ?_
      refine wl_nil (q_n (k18 _ _ ?_))
      refine sx_sub (Sub.cons (t := 1) rfl (.cons (t := 10) rfl (.cons (t := 11) rfl (.cons (t := 33) rfl (.nil))))) ?_
      refine sx_condP rfl (fun h39 => ?_) (fun h39 => ?_)
      ·
       refine sx_seq fun K19 k19 => sx_region ?_
       refine sm rfl rfl rfl rfl ?_
       refine sx_pure rfl rfl rfl (px_ge rfl rfl) ?_
       refine sa rfl rfl rfl rfl ?_
       refine wl_nil (q_n (k19 _ _ ?_))
       refine sx_retc ?_
       refine q_br (q_r (sx_ret1 Try.results52 rfl ?_))
       have hcd := cmpL_dg (r + r) d
       exact ⟨by rw [← hcd]; simp_all [awayB], (c3.t c5)⟩
      ·
       refine sx_skip ?_
       refine q_bn (q_n (k6 _ _ ?_))
       refine sx_seq fun K20 k20 => sx_region ?_
       refine sm rfl rfl rfl rfl ?_
       refine sx_pure rfl rfl rfl (px_gt rfl rfl) ?_
       refine sm rfl rfl rfl rfl ?_
       refine sx_tmpP (t := 39) rfl (fun h42 => ?_) (fun h42 => ?_)
       ·
        refine sx_guardF rfl rfl rfl rfl rfl rfl ?_
        refine sx_guardF rfl rfl rfl rfl rfl rfl ?_
        refine sx_guardF rfl rfl rfl rfl rfl rfl ?_
        refine sx_guardFU rfl rfl rfl rfl rfl ?_
        refine sx_guardFU rfl rfl rfl rfl rfl ?_
        refine sx_guardFU rfl rfl rfl rfl rfl ?_
        refine sx_guardF rfl rfl rfl rfl rfl rfl ?_
        refine sx_pure rfl rfl rfl (px_pick rfl rfl) ?_
        refine sa rfl rfl rfl rfl ?_
        refine wl_nil (q_n (k20 _ _ ?_))
        refine sx_sub (Sub.cons (t := 10) rfl (.nil)) ?_
        refine sx_retc ?_
        refine sx_ret1 Try.results52 rfl ?_
        have hcd := cmpL_dg (r + r) d
        exact ⟨by rw [← hcd]; simp_all [awayB], (c3.t c5)⟩
       ·
        refine sx_guardT rfl rfl rfl ?_
        refine sm rfl rfl rfl rfl ?_
        refine sx_guardT rfl rfl rfl ?_
        refine sx_pure rfl rfl rfl (px_eq rfl rfl) ?_
        refine sx_guardT rfl rfl rfl ?_
        refine sm rfl rfl rfl rfl ?_
        refine sx_tmpP (t := 42) rfl (fun h42x1 => ?_) (fun h42x1 => ?_)
        ·
         refine sx_guardT rfl rfl rfl ?_
         refine sm rfl rfl rfl rfl ?_
         refine sx_guardT rfl rfl rfl ?_
         have f21 := hvq0.ext c3
         have f22 := f21.ext c5
         refine sx_call rfl rfl Try.call92 (c_sNatEven f22 (by omega)) (fun v23 w23 p23 => ?_)
         obtain ⟨rfl, c23⟩ := p23
         have zw23 := c23.size
         refine sx_guardT rfl rfl rfl ?_
         refine sx_pure rfl rfl rfl (px_notP rfl) ?_
         refine sx_guardT rfl rfl rfl ?_
         refine sx_pure rfl rfl rfl (px_pick rfl rfl) ?_
         refine sx_pure rfl rfl rfl (px_pick rfl rfl) ?_
         refine sa rfl rfl rfl rfl ?_
         refine wl_nil (q_n (k20 _ _ ?_))
         refine sx_sub (Sub.cons (t := 10) rfl (.nil)) ?_
         refine sx_retc ?_
         refine sx_ret1 Try.results52 rfl ?_
         have hcd := cmpL_dg (r + r) d
         exact ⟨by rw [← hcd]; simp_all [awayB], ((c3.t c5).t c23)⟩
        ·
         refine sx_guardF rfl rfl rfl rfl rfl rfl ?_
         refine sx_guardF rfl rfl rfl rfl rfl rfl ?_
         refine sx_guardF rfl rfl rfl rfl rfl rfl ?_
         refine sx_guardT rfl rfl rfl ?_
         refine sx_pure rfl rfl rfl (px_pick rfl rfl) ?_
         refine sx_pure rfl rfl rfl (px_pick rfl rfl) ?_
         refine sa rfl rfl rfl rfl ?_
         refine wl_nil (q_n (k20 _ _ ?_))
         refine sx_sub (Sub.cons (t := 10) rfl (.nil)) ?_
         refine sx_retc ?_
         refine sx_ret1 Try.results52 rfl ?_
         have hcd := cmpL_dg (r + r) d
         exact ⟨by rw [← hcd]; simp_all [awayB], (c3.t c5)⟩

theorem c_sRatDec {w : World} {n1 : Bool} {v1 : Value} {lv1 uv1 : Nat} {z1 : List Int} {d1 : Value} {ld1 ud1 : Nat} {y1 : List Int} {q : Int} {m : Int} (hv1 : Sl w lv1 uv1 v1 (z1)) (hd1 : Sl w ld1 ud1 d1 (y1)) (h63 : z1.length ≤ 4611686018427387904 ∧ y1.length ≤ 4611686018427387904) :
  Ret Try.prog 18 [.agg #[.bool n1, v1, d1], .int .i64 q, .int .i64 m] w fun v w' => ∃ s, v = .tuple #[.agg #[.bool ((rDec n1 z1 y1 q m).1), s, .int .i64 ((rDec n1 z1 y1 q m).2.2.1)], .bool ((rDec n1 z1 y1 q m).2.2.2)] ∧ OwnI w' w.heap.size w'.heap.size s intT ((rDec n1 z1 y1 q m).2.1) ∧ ((rDec n1 z1 y1 q m).2.1.length ≤ 6) ∧ Chg 0 0 w w' := by
 have hv10 := hv1.fit
 have hd10 := hd1.fit
 refine sx_enter Try.func18 rfl Try.ntmps18 (Nat.le_of_ble_eq_true rfl) ?_
 refine sx_seq fun K1 k1 => sx_region ?_
 refine sx_box [.bool n1, v1, d1] rfl rfl rfl (fun b2 w3 eb2 sb2 fb2 cb2 => ?_)
 have zw3 := cb2.size
 refine sx_alloc [.bool false, (.slice none 0 0), .int .i64 0] rfl Try.zeroValue30 rfl (fun b4 w5 eb4 sb4 fb4 cb4 => ?_)
 have zw5 := cb4.size
 refine sa rfl rfl rfl rfl ?_
 refine wl_nil (q_n (k1 _ _ ?_))
 refine sx_seq fun K6 k6 => ?_
 refine sx_seq fun K7 k7 => sx_region ?_
 have f8 := fb2.ext cb4
 refine sx_pure rfl rfl rfl (px_load rfl (f8.loadA (vs := [.bool n1, v1, d1]) (look_lit rfl) Try.isAgg44 Try.sizeOf44)) ?_
 have f9 := hv10.ext cb2
 have f10 := f9.ext cb4
 have f11 := hd10.ext cb2
 have f12 := f11.ext cb4
 refine sx_call rfl rfl Try.call47 (c_sRatOk f10 f12 (by omega)) (fun v13 w13 p13 => ?_)
 obtain ⟨rfl, c13⟩ := p13
 have zw13 := c13.size
 refine sx_pure rfl rfl rfl (px_notP rfl) ?_
 refine sm rfl rfl rfl rfl ?_
 refine sx_tmpP (t := 14) rfl (fun h140 => ?_) (fun h140 => ?_)
 ·
  refine sx_guardF rfl rfl rfl rfl rfl rfl ?_
  refine sx_guardF rfl rfl rfl rfl rfl rfl ?_
  refine sx_guardF rfl rfl rfl rfl rfl rfl ?_
  refine sx_pure rfl rfl rfl (px_pick rfl rfl) ?_
  refine sm rfl rfl rfl rfl ?_
  refine sx_guardF rfl rfl rfl rfl rfl rfl ?_
  refine sx_guardF rfl rfl rfl rfl rfl rfl ?_
  refine sx_guardF rfl rfl rfl rfl rfl rfl ?_
  refine sx_pure rfl rfl rfl (px_pick rfl rfl) ?_
  refine wl_nil (q_n (k7 _ _ ?_))
  refine sx_sub (Sub.cons (t := 1) rfl (.cons (t := 2) rfl (.cons (t := 3) rfl (.cons (t := 6) rfl (.cons (t := 7) rfl (.cons (t := 23) rfl (.nil))))))) ?_
  refine sx_condT rfl ?_
  refine sx_seq fun K14 k14 => sx_region ?_
  refine sx_pure rfl rfl rfl (px_build rfl (xbld30x  _)) ?_
  have f16 := fb4.ext c13
  refine sx_store (vs := [.bool false, (.slice none 0 0), .int .i64 0]) rfl rfl f16 rfl Try.sizeOf30 (Nat.le_of_ble_eq_true rfl) (one_cons rfl (one_cons rfl (one_cons rfl one_nil))) (fun w15 sw15 fw15 cw15 => ?_)
  have zw15 := cw15.size
  have gw15 : Blk w15 b4 [.bool false, (.slice none 0 0), .int .i64 0] 30 := fw15
  refine sa rfl rfl rfl rfl ?_
  refine wl_nil (q_n (k14 _ _ ?_))
  refine sx_retc ?_
  refine q_r (sx_ret2 Try.results18 ⟨_, rfl, gw15.loadA (vs := [.bool false, (.slice none 0 0), .int .i64 0]) (look_lit rfl) Try.isAgg30 Try.sizeOf30⟩ rfl ?_)
  rw [rDec_no (by grind)]
  have q17 := Chg.step (l := 0) (h := 0) (Chg.zero (l := 0) (h := 0) ((cb2.t cb4).t c13)) cw15 (by omega)
  exact ⟨_, rfl, Own.nil _ _ _ _ _, by simp [noD], q17⟩
 ·
  refine sx_guardT rfl rfl rfl ?_
  refine sm rfl rfl rfl rfl ?_
  refine sx_guardT rfl rfl rfl ?_
  refine sx_call rfl rfl Try.call33 (c_l01In) (fun v18 w18 p18 => ?_)
  obtain ⟨rfl, c18⟩ := p18
  have zw18 := c18.size
  refine sx_guardT rfl rfl rfl ?_
  refine sx_pure rfl rfl rfl (px_notP rfl) ?_
  refine sx_pure rfl rfl rfl (px_pick rfl rfl) ?_
  refine sm rfl rfl rfl rfl ?_
  refine sx_tmpP (t := 19) rfl (fun h140x1 => ?_) (fun h140x1 => ?_)
  ·
   refine sx_guardF rfl rfl rfl rfl rfl rfl ?_
   refine sx_guardF rfl rfl rfl rfl rfl rfl ?_
   refine sx_guardF rfl rfl rfl rfl rfl rfl ?_
   refine sx_pure rfl rfl rfl (px_pick rfl rfl) ?_
   refine wl_nil (q_n (k7 _ _ ?_))
   refine sx_sub (Sub.cons (t := 1) rfl (.cons (t := 2) rfl (.cons (t := 3) rfl (.cons (t := 6) rfl (.cons (t := 7) rfl (.cons (t := 23) rfl (.nil))))))) ?_
   refine sx_condT rfl ?_
   refine sx_seq fun K19 k19 => sx_region ?_
   refine sx_pure rfl rfl rfl (px_build rfl (xbld30x  _)) ?_
   have f21 := fb4.ext c13
   have f22 := f21.ext c18
   refine sx_store (vs := [.bool false, (.slice none 0 0), .int .i64 0]) rfl rfl f22 rfl Try.sizeOf30 (Nat.le_of_ble_eq_true rfl) (one_cons rfl (one_cons rfl (one_cons rfl one_nil))) (fun w20 sw20 fw20 cw20 => ?_)
   have zw20 := cw20.size
   have gw20 : Blk w20 b4 [.bool false, (.slice none 0 0), .int .i64 0] 30 := fw20
   refine sa rfl rfl rfl rfl ?_
   refine wl_nil (q_n (k19 _ _ ?_))
   refine sx_retc ?_
   refine q_r (sx_ret2 Try.results18 ⟨_, rfl, gw20.loadA (vs := [.bool false, (.slice none 0 0), .int .i64 0]) (look_lit rfl) Try.isAgg30 Try.sizeOf30⟩ rfl ?_)
   rw [rDec_no (by grind)]
   have q23 := Chg.step (l := 0) (h := 0) (Chg.zero (l := 0) (h := 0) (((cb2.t cb4).t c13).t c18)) cw20 (by omega)
   exact ⟨_, rfl, Own.nil _ _ _ _ _, by simp [noD], q23⟩
  ·
   refine sx_guardT rfl rfl rfl ?_
   refine sm rfl rfl rfl rfl ?_
   refine sx_guardT rfl rfl rfl ?_
   refine sx_call rfl rfl Try.call48 (c_l06Mode) (fun v24 w24 p24 => ?_)
   obtain ⟨rfl, c24⟩ := p24
   have zw24 := c24.size
   refine sx_guardT rfl rfl rfl ?_
   refine sx_pure rfl rfl rfl (px_notP rfl) ?_
   refine sx_pure rfl rfl rfl (px_pick rfl rfl) ?_
   refine wl_nil (q_n (k7 _ _ ?_))
   refine sx_sub (Sub.cons (t := 1) rfl (.cons (t := 2) rfl (.cons (t := 3) rfl (.cons (t := 6) rfl (.cons (t := 7) rfl (.cons (t := 23) rfl (.nil))))))) ?_
   refine sx_condP rfl (fun h140x2 => ?_) (fun h140x2 => ?_)
   ·
    refine sx_seq fun K25 k25 => sx_region ?_
    refine sx_pure rfl rfl rfl (px_build rfl (xbld30x  _)) ?_
    have f27 := fb4.ext c13
    have f28 := f27.ext c18
    have f29 := f28.ext c24
    refine sx_store (vs := [.bool false, (.slice none 0 0), .int .i64 0]) rfl rfl f29 rfl Try.sizeOf30 (Nat.le_of_ble_eq_true rfl) (one_cons rfl (one_cons rfl (one_cons rfl one_nil))) (fun w26 sw26 fw26 cw26 => ?_)
    have zw26 := cw26.size
    have gw26 : Blk w26 b4 [.bool false, (.slice none 0 0), .int .i64 0] 30 := fw26
    refine sa rfl rfl rfl rfl ?_
    refine wl_nil (q_n (k25 _ _ ?_))
    refine sx_retc ?_
    refine q_r (sx_ret2 Try.results18 ⟨_, rfl, gw26.loadA (vs := [.bool false, (.slice none 0 0), .int .i64 0]) (look_lit rfl) Try.isAgg30 Try.sizeOf30⟩ rfl ?_)
    rw [rDec_no (by grind)]
    have q30 := Chg.step (l := 0) (h := 0) (Chg.zero (l := 0) (h := 0) ((((cb2.t cb4).t c13).t c18).t c24)) cw26 (by omega)
    exact ⟨_, rfl, Own.nil _ _ _ _ _, by simp [noD], q30⟩
   ·
    have hR := Decidable.not_not.1 h140
    have hQ := Decidable.not_not.1 h140x1
    have hM := Decidable.not_not.1 h140x2
    obtain ⟨x1, e1, rfl, rfl, rfl, he0, hx1, he1, hg1⟩ := hR.rat
    have lt9 := ten_len' (k := q) (by omega)
    have lm9 := len_mul x1.natAbs (10 ^ q.toNat)
    have na9 := natAbs_ten x1 q
    have lq9 := len_div (x1.natAbs * 10 ^ q.toNat) e1
    have lr9 := len_mod (m := x1.natAbs * 10 ^ q.toNat) he0
    have lrr := len_add (x1.natAbs * 10 ^ q.toNat % e1) (x1.natAbs * 10 ^ q.toNat % e1)
    refine sx_skip ?_
    refine q_n (k6 _ _ ?_)
    refine sx_seq fun K31 k31 => ?_
    have f32 := f8.ext c13
    have f33 := f32.ext c18
    have f34 := f33.ext c24
    have f35 := fb4.ext c13
    have f36 := f35.ext c18
    have f37 := f36.ext c24
    have f38 := f10.ext c13
    have f39 := f38.ext c18
    have f40 := f39.ext c24
    have f41 := f12.ext c13
    have f42 := f41.ext c18
    have f43 := f42.ext c24
    refine dx_region (fun w' => Chg 0 0 w24 w') (by kernel_rfl) (Chg.zero (Chg.drew _)) ?_
    have d44 := Chg.drew w24
    have s44 : Chg 0 0 w24 (World.drew w24) := Chg.zero (Chg.drew _)
    have y44 : (World.drew w24).heap.size = w24.heap.size := rfl
    generalize World.drew w24 = w44 at *
    have zw44 := d44.size
    refine dx_take 0 rfl rfl rfl rfl (by kernel_rfl) (by kernel_rfl) (by kernel_rfl) s44 (fun _ hS => px_field rfl xfld44x0) ?_
    refine dx_take 1 rfl rfl rfl rfl (by kernel_rfl) (by kernel_rfl) (by kernel_rfl) s44 (fun _ hS => px_field rfl xfld28x1) ?_
    refine dx_take 2 rfl rfl rfl rfl (by kernel_rfl) (by kernel_rfl) (by kernel_rfl) s44 (fun _ hS => px_load rfl ((f34.chg hS (by omega)).load1 rfl Try.isAgg22)) ?_
    refine dx_take 3 rfl rfl rfl rfl (by kernel_rfl) (by kernel_rfl) (by kernel_rfl) s44 (fun _ hS => px_move rfl) ?_
    refine dx_eff 4 rfl (by kernel_rfl) ?_
    refine sx_call rfl rfl Try.call50 (c_sNatTen (by omega)) (fun v45 w45 p45 => ?_)
    obtain ⟨s45, rfl, os_45, c45⟩ := p45
    have zw45 := c45.size
    have s46 : Chg 0 0 w24 w45 := (d44.t c45)
    refine wl_nil ?_
    refine dx_next s46 ?_
    refine dx_eff 5 rfl (by kernel_rfl) ?_
    have f47 := f40.ext d44
    have f48 := f47.ext c45
    refine sx_call rfl rfl Try.call49 (c_l02Mul f48 os_45.sv (by omega) (by omega)) (fun v49 w49 p49 => ?_)
    obtain ⟨s49, rfl, os_49, c49⟩ := p49
    have zw49 := c49.size
    have s50 : Chg 0 0 w24 w49 := ((d44.t c45).t c49)
    refine wl_nil ?_
    refine dx_next s50 ?_
    refine dx_take 6 rfl rfl rfl rfl (by kernel_rfl) (by kernel_rfl) (by kernel_rfl) s50 (fun _ hS => px_assign rfl) ?_
    refine dx_done (by kernel_rfl) ?_
    refine q_n (k31 _ _ ?_)
    refine sx_seq fun K51 k51 => sx_region ?_
    refine sm rfl rfl rfl rfl ?_
    refine sx_pure rfl rfl rfl (px_field rfl xfld44x1) ?_
    have f52 := f34.ext d44
    have f53 := f52.ext c45
    have f54 := f53.ext c49
    refine sx_pure rfl rfl rfl (px_load rfl (f54.load1 rfl Try.isAgg22)) ?_
    have f55 := f43.ext d44
    have f56 := f55.ext c45
    have f57 := f56.ext c49
    refine sx_call rfl rfl Try.call51 (c_l03Div os_49 f57 (by omega) (by omega) (he0)) (fun v58 w58 p58 => ?_)
    obtain ⟨s58, t58, rfl, os_58, ot_58, c58⟩ := p58
    have zw58 := c58.size
    refine sm rfl rfl rfl rfl ?_
    refine sx_pure rfl rfl rfl (px_extract (vs := [s58, t58]) rfl rfl) ?_
    refine sx_pure rfl rfl rfl (px_extract (vs := [s58, t58]) rfl rfl) ?_
    refine sa rfl rfl rfl rfl ?_
    refine sa rfl rfl rfl rfl ?_
    refine wl_nil (q_n (k51 _ _ ?_))
    refine sx_sub (Sub.cons (t := 1) rfl (.cons (t := 2) rfl (.cons (t := 3) rfl (.cons (t := 6) rfl (.cons (t := 7) rfl (.cons (t := 9) rfl (.cons (t := 10) rfl (.nil)))))))) ?_
    refine sx_seq fun K59 k59 => ?_
    refine sx_seq fun K60 k60 => sx_region ?_
    refine sm rfl rfl rfl rfl ?_
    refine sx_pure rfl rfl rfl (px_len rfl Try.underlying22 ot_58) ?_
    refine sx_pure rfl rfl rfl (px_gt rfl rfl) ?_
    refine sm rfl rfl rfl rfl ?_
    refine sx_tmpP (t := 41) rfl (fun h145 => ?_) (fun h145 => ?_)
    ·
     refine sx_guardT rfl rfl rfl ?_
     refine sx_pure rfl rfl rfl (px_field rfl xfld44x0) ?_
     refine sx_guardT rfl rfl rfl ?_
     refine sx_pure rfl rfl rfl (px_field rfl xfld28x0) ?_
     refine sx_guardT rfl rfl rfl ?_
     have f61 := f54.ext c58
     refine sx_pure rfl rfl rfl (px_load rfl (f61.load1 rfl Try.isAgg4)) ?_
     refine sx_guardT rfl rfl rfl ?_
     refine sm rfl rfl rfl rfl ?_
     refine sx_guardT rfl rfl rfl ?_
     refine sm rfl rfl rfl rfl ?_
     refine sx_guardT rfl rfl rfl ?_
     refine sx_pure rfl rfl rfl (px_field rfl xfld44x1) ?_
     refine sx_guardT rfl rfl rfl ?_
     refine sx_pure rfl rfl rfl (px_load rfl (f61.load1 rfl Try.isAgg22)) ?_
     refine sx_guardT rfl rfl rfl ?_
     refine sm rfl rfl rfl rfl ?_
     refine sx_guardT rfl rfl rfl ?_
     have f62 := f57.ext c58
     refine sx_call rfl rfl Try.call52 (c_l06Away os_58 ot_58 f62 (by omega) (by omega) (by omega) (by omega)) (fun v63 w63 p63 => ?_)
     obtain ⟨rfl, c63⟩ := p63
     have zw63 := c63.size
     refine sx_pure rfl rfl rfl (px_pick rfl rfl) ?_
     refine wl_nil (q_n (k60 _ _ ?_))
     refine sx_sub (Sub.cons (t := 1) rfl (.cons (t := 3) rfl (.cons (t := 6) rfl (.cons (t := 7) rfl (.cons (t := 9) rfl (.cons (t := 51) rfl (.nil))))))) ?_
     refine sx_condB rfl (fun h145x1 => ?_) (fun h145x1 => ?_)
     ·
      try rw [cmpL_dg] at h145x1
      try simp only [Decidable.not_not] at h145x1
      have e := rq_up (x := (x1 * tenI q)) (d := e1) (m := m) (by rw [na9]; exact len_pos.1 (by omega)) (by rw [na9, ng_ten]; exact h145x1)
      rw [na9] at e
      refine sx_region ?_
      refine sm rfl rfl rfl rfl ?_
      refine sx_lit1 rfl xelt22 rfl rfl (fun s64 ws64 ss64 fs64 cs64 => ?_)
      have ns64 := Own.norm (f := (Value.int .i64)) (zs := [1]) fs64
      have zws64 := cs64.size
      have f65 := os_58.ext c63
      have f66 := f65.ext cs64
      refine sx_call rfl rfl Try.call53 (c_l02Add1 f66 ns64.sv (by omega) (rfl)) (fun v67 w67 p67 => ?_)
      obtain ⟨s67, rfl, os_67, c67⟩ := p67
      have zw67 := c67.size
      refine sa rfl rfl rfl rfl ?_
      refine wl_nil (q_n (k59 _ _ ?_))
      refine sx_seq fun K68 k68 => sx_region ?_
      refine sx_pure rfl rfl rfl (px_field rfl xfld44x0) ?_
      refine sx_pure rfl rfl rfl (px_field rfl xfld28x0) ?_
      have f69 := f61.ext c63
      have f70 := f69.ext cs64
      have f71 := f70.ext c67
      refine sx_pure rfl rfl rfl (px_load rfl (f71.load1 rfl Try.isAgg4)) ?_
      refine sm rfl rfl rfl rfl ?_
      refine sx_call rfl rfl Try.call54 (c_l04Make os_67 (by rw [← e]; exact Nat.le_trans (rq_len (k := 49) (by rw [na9]; omega)) (by omega))) (fun v72 w72 p72 => ?_)
      obtain ⟨s72, rfl, os_72, c72⟩ := p72
      have zw72 := c72.size
      refine sm rfl rfl rfl rfl ?_
      refine sx_call rfl rfl Try.call34 (c_l07Dec os_72 (Nat.le_trans (by unfold capI capN; split <;> split <;> (try rw [Int.natAbs_neg]) <;> (rw [Int.natAbs_natCast]; first | assumption | (rw [dg_zero]; simp))) (show 50 ≤ 1000 by decide)) (by omega)) (fun v73 w73 p73 => ?_)
      obtain ⟨s73, rfl, os_73, c73⟩ := p73
      have zw73 := c73.size
      refine sx_pure rfl rfl rfl (px_extract (vs := [.agg #[.bool ((decR (capI (ng x1) (((x1.natAbs * (10 ^ (q).toNat)) / e1) + 1)) q).1), s73, .int .i64 ((decR (capI (ng x1) (((x1.natAbs * (10 ^ (q).toNat)) / e1) + 1)) q).2.2.1)], .bool ((decR (capI (ng x1) (((x1.natAbs * (10 ^ (q).toNat)) / e1) + 1)) q).2.2.2)]) rfl rfl) ?_
      refine sx_pure rfl rfl rfl (px_extract (vs := [.agg #[.bool ((decR (capI (ng x1) (((x1.natAbs * (10 ^ (q).toNat)) / e1) + 1)) q).1), s73, .int .i64 ((decR (capI (ng x1) (((x1.natAbs * (10 ^ (q).toNat)) / e1) + 1)) q).2.2.1)], .bool ((decR (capI (ng x1) (((x1.natAbs * (10 ^ (q).toNat)) / e1) + 1)) q).2.2.2)]) rfl rfl) ?_
      have f75 := f37.ext d44
      have f76 := f75.ext c45
      have f77 := f76.ext c49
      have f78 := f77.ext c58
      have f79 := f78.ext c63
      have f80 := f79.ext cs64
      have f81 := f80.ext c67
      have f82 := f81.ext c72
      have f83 := f82.ext c73
      refine sx_store (vs := [.bool ((decR (capI (ng x1) (((x1.natAbs * (10 ^ (q).toNat)) / e1) + 1)) q).1), s73, .int .i64 ((decR (capI (ng x1) (((x1.natAbs * (10 ^ (q).toNat)) / e1) + 1)) q).2.2.1)]) rfl rfl f83 rfl Try.sizeOf30 (Nat.le_of_ble_eq_true rfl) (one_cons rfl (one_cons os_73.one (one_cons rfl one_nil))) (fun w74 sw74 fw74 cw74 => ?_)
      have zw74 := cw74.size
      have gw74 : Blk w74 b4 [.bool ((decR (capI (ng x1) (((x1.natAbs * (10 ^ (q).toNat)) / e1) + 1)) q).1), s73, .int .i64 ((decR (capI (ng x1) (((x1.natAbs * (10 ^ (q).toNat)) / e1) + 1)) q).2.2.1)] 30 := fw74
      refine sa rfl rfl rfl rfl ?_
      refine wl_nil (q_n (k68 _ _ ?_))
      refine sx_sub (Sub.cons (t := 6) rfl (.cons (t := 7) rfl (.nil))) ?_
      refine sx_retc ?_
      refine sx_ret2 Try.results18 ⟨_, rfl, gw74.loadA (vs := [.bool ((decR (capI (ng x1) (((x1.natAbs * (10 ^ (q).toNat)) / e1) + 1)) q).1), s73, .int .i64 ((decR (capI (ng x1) (((x1.natAbs * (10 ^ (q).toNat)) / e1) + 1)) q).2.2.1)]) (look_lit rfl) Try.isAgg30 Try.sizeOf30⟩ rfl ?_
      have hcs : capI (ng x1) (((x1.natAbs * (10 ^ (q).toNat)) / e1) + 1) = rqI (x1 * tenI q) e1 m := by rw [capI_sgI (by rw [← e]; exact rq_len (k := 49) (by rw [na9]; omega)), ← e]; unfold rqI; rw [ng_ten]
      have hrl := rDec_len (n := ng x1) (z := dg x1.natAbs) (y := dg e1) (q := q) (m := m)
      rw [rDec_ok ⟨hR, hQ, hM⟩, ← hcs] at hrl ⊢
      have q84 := Chg.step (l := 0) (h := 0) (Chg.zero (l := 0) (h := 0) (((((((((((((cb2.t cb4).t c13).t c18).t c24).t d44).t c45).t c49).t c58).t c63).t cs64).t c67).t c72).t c73)) cw74 (by omega)
      have f85 := os_73.chg cw74 (by omega)
      exact ⟨_, rfl, (Own.mono f85 (by omega) (by omega)), hrl, q84⟩
     ·
      try rw [cmpL_dg] at h145x1
      try simp only [Decidable.not_not] at h145x1
      have e := rq_dn (x := (x1 * tenI q)) (d := e1) (m := m) (fun hh => by rw [na9, ng_ten] at hh; have h9 := hh.2; rw [h145x1] at h9; cases h9)
      rw [na9] at e
      refine sx_skip ?_
      refine q_n (k59 _ _ ?_)
      refine sx_seq fun K86 k86 => sx_region ?_
      refine sx_pure rfl rfl rfl (px_field rfl xfld44x0) ?_
      refine sx_pure rfl rfl rfl (px_field rfl xfld28x0) ?_
      have f87 := f61.ext c63
      refine sx_pure rfl rfl rfl (px_load rfl (f87.load1 rfl Try.isAgg4)) ?_
      refine sm rfl rfl rfl rfl ?_
      have f88 := os_58.ext c63
      refine sx_call rfl rfl Try.call54 (c_l04Make f88 (by rw [← e]; exact Nat.le_trans (rq_len (k := 49) (by rw [na9]; omega)) (by omega))) (fun v89 w89 p89 => ?_)
      obtain ⟨s89, rfl, os_89, c89⟩ := p89
      have zw89 := c89.size
      refine sm rfl rfl rfl rfl ?_
      refine sx_call rfl rfl Try.call34 (c_l07Dec os_89 (Nat.le_trans (by unfold capI capN; split <;> split <;> (try rw [Int.natAbs_neg]) <;> (rw [Int.natAbs_natCast]; first | assumption | (rw [dg_zero]; simp))) (show 50 ≤ 1000 by decide)) (by omega)) (fun v90 w90 p90 => ?_)
      obtain ⟨s90, rfl, os_90, c90⟩ := p90
      have zw90 := c90.size
      refine sx_pure rfl rfl rfl (px_extract (vs := [.agg #[.bool ((decR (capI (ng x1) ((x1.natAbs * (10 ^ (q).toNat)) / e1)) q).1), s90, .int .i64 ((decR (capI (ng x1) ((x1.natAbs * (10 ^ (q).toNat)) / e1)) q).2.2.1)], .bool ((decR (capI (ng x1) ((x1.natAbs * (10 ^ (q).toNat)) / e1)) q).2.2.2)]) rfl rfl) ?_
      refine sx_pure rfl rfl rfl (px_extract (vs := [.agg #[.bool ((decR (capI (ng x1) ((x1.natAbs * (10 ^ (q).toNat)) / e1)) q).1), s90, .int .i64 ((decR (capI (ng x1) ((x1.natAbs * (10 ^ (q).toNat)) / e1)) q).2.2.1)], .bool ((decR (capI (ng x1) ((x1.natAbs * (10 ^ (q).toNat)) / e1)) q).2.2.2)]) rfl rfl) ?_
      have f92 := f37.ext d44
      have f93 := f92.ext c45
      have f94 := f93.ext c49
      have f95 := f94.ext c58
      have f96 := f95.ext c63
      have f97 := f96.ext c89
      have f98 := f97.ext c90
      refine sx_store (vs := [.bool ((decR (capI (ng x1) ((x1.natAbs * (10 ^ (q).toNat)) / e1)) q).1), s90, .int .i64 ((decR (capI (ng x1) ((x1.natAbs * (10 ^ (q).toNat)) / e1)) q).2.2.1)]) rfl rfl f98 rfl Try.sizeOf30 (Nat.le_of_ble_eq_true rfl) (one_cons rfl (one_cons os_90.one (one_cons rfl one_nil))) (fun w91 sw91 fw91 cw91 => ?_)
      have zw91 := cw91.size
      have gw91 : Blk w91 b4 [.bool ((decR (capI (ng x1) ((x1.natAbs * (10 ^ (q).toNat)) / e1)) q).1), s90, .int .i64 ((decR (capI (ng x1) ((x1.natAbs * (10 ^ (q).toNat)) / e1)) q).2.2.1)] 30 := fw91
      refine sa rfl rfl rfl rfl ?_
      refine wl_nil (q_n (k86 _ _ ?_))
      refine sx_sub (Sub.cons (t := 6) rfl (.cons (t := 7) rfl (.nil))) ?_
      refine sx_retc ?_
      refine sx_ret2 Try.results18 ⟨_, rfl, gw91.loadA (vs := [.bool ((decR (capI (ng x1) ((x1.natAbs * (10 ^ (q).toNat)) / e1)) q).1), s90, .int .i64 ((decR (capI (ng x1) ((x1.natAbs * (10 ^ (q).toNat)) / e1)) q).2.2.1)]) (look_lit rfl) Try.isAgg30 Try.sizeOf30⟩ rfl ?_
      have hcs : capI (ng x1) ((x1.natAbs * (10 ^ (q).toNat)) / e1) = rqI (x1 * tenI q) e1 m := by rw [capI_sgI (by rw [← e]; exact rq_len (k := 49) (by rw [na9]; omega)), ← e]; unfold rqI; rw [ng_ten]
      have hrl := rDec_len (n := ng x1) (z := dg x1.natAbs) (y := dg e1) (q := q) (m := m)
      rw [rDec_ok ⟨hR, hQ, hM⟩, ← hcs] at hrl ⊢
      have q99 := Chg.step (l := 0) (h := 0) (Chg.zero (l := 0) (h := 0) (((((((((((cb2.t cb4).t c13).t c18).t c24).t d44).t c45).t c49).t c58).t c63).t c89).t c90)) cw91 (by omega)
      have f100 := os_90.chg cw91 (by omega)
      exact ⟨_, rfl, (Own.mono f100 (by omega) (by omega)), hrl, q99⟩
    ·
     have e := rq_dn (x := (x1 * tenI q)) (d := e1) (m := m) (fun hh => by rw [na9, ng_ten] at hh; have h9 := len_pos.2 hh.1; omega)
     rw [na9] at e
     refine sx_guardF rfl rfl rfl rfl rfl rfl ?_
     refine sx_guardF rfl rfl rfl rfl rfl rfl ?_
     refine sx_guardF rfl rfl rfl rfl rfl rfl ?_
     refine sx_guardF rfl rfl rfl rfl rfl rfl ?_
     refine sx_guardF rfl rfl rfl rfl rfl rfl ?_
     refine sx_guardF rfl rfl rfl rfl rfl rfl ?_
     refine sx_guardF rfl rfl rfl rfl rfl rfl ?_
     refine sx_guardF rfl rfl rfl rfl rfl rfl ?_
     refine sx_guardF rfl rfl rfl rfl rfl rfl ?_
     refine sx_pure rfl rfl rfl (px_pick rfl rfl) ?_
     refine wl_nil (q_n (k60 _ _ ?_))
     refine sx_sub (Sub.cons (t := 1) rfl (.cons (t := 3) rfl (.cons (t := 6) rfl (.cons (t := 7) rfl (.cons (t := 9) rfl (.cons (t := 51) rfl (.nil))))))) ?_
     refine sx_condF rfl ?_
     refine sx_skip ?_
     refine q_n (k59 _ _ ?_)
     refine sx_seq fun K101 k101 => sx_region ?_
     refine sx_pure rfl rfl rfl (px_field rfl xfld44x0) ?_
     refine sx_pure rfl rfl rfl (px_field rfl xfld28x0) ?_
     have f102 := f54.ext c58
     refine sx_pure rfl rfl rfl (px_load rfl (f102.load1 rfl Try.isAgg4)) ?_
     refine sm rfl rfl rfl rfl ?_
     refine sx_call rfl rfl Try.call54 (c_l04Make os_58 (by rw [← e]; exact Nat.le_trans (rq_len (k := 49) (by rw [na9]; omega)) (by omega))) (fun v103 w103 p103 => ?_)
     obtain ⟨s103, rfl, os_103, c103⟩ := p103
     have zw103 := c103.size
     refine sm rfl rfl rfl rfl ?_
     refine sx_call rfl rfl Try.call34 (c_l07Dec os_103 (Nat.le_trans (by unfold capI capN; split <;> split <;> (try rw [Int.natAbs_neg]) <;> (rw [Int.natAbs_natCast]; first | assumption | (rw [dg_zero]; simp))) (show 50 ≤ 1000 by decide)) (by omega)) (fun v104 w104 p104 => ?_)
     obtain ⟨s104, rfl, os_104, c104⟩ := p104
     have zw104 := c104.size
     refine sx_pure rfl rfl rfl (px_extract (vs := [.agg #[.bool ((decR (capI (ng x1) ((x1.natAbs * (10 ^ (q).toNat)) / e1)) q).1), s104, .int .i64 ((decR (capI (ng x1) ((x1.natAbs * (10 ^ (q).toNat)) / e1)) q).2.2.1)], .bool ((decR (capI (ng x1) ((x1.natAbs * (10 ^ (q).toNat)) / e1)) q).2.2.2)]) rfl rfl) ?_
     refine sx_pure rfl rfl rfl (px_extract (vs := [.agg #[.bool ((decR (capI (ng x1) ((x1.natAbs * (10 ^ (q).toNat)) / e1)) q).1), s104, .int .i64 ((decR (capI (ng x1) ((x1.natAbs * (10 ^ (q).toNat)) / e1)) q).2.2.1)], .bool ((decR (capI (ng x1) ((x1.natAbs * (10 ^ (q).toNat)) / e1)) q).2.2.2)]) rfl rfl) ?_
     have f106 := f37.ext d44
     have f107 := f106.ext c45
     have f108 := f107.ext c49
     have f109 := f108.ext c58
     have f110 := f109.ext c103
     have f111 := f110.ext c104
     refine sx_store (vs := [.bool ((decR (capI (ng x1) ((x1.natAbs * (10 ^ (q).toNat)) / e1)) q).1), s104, .int .i64 ((decR (capI (ng x1) ((x1.natAbs * (10 ^ (q).toNat)) / e1)) q).2.2.1)]) rfl rfl f111 rfl Try.sizeOf30 (Nat.le_of_ble_eq_true rfl) (one_cons rfl (one_cons os_104.one (one_cons rfl one_nil))) (fun w105 sw105 fw105 cw105 => ?_)
     have zw105 := cw105.size
     have gw105 : Blk w105 b4 [.bool ((decR (capI (ng x1) ((x1.natAbs * (10 ^ (q).toNat)) / e1)) q).1), s104, .int .i64 ((decR (capI (ng x1) ((x1.natAbs * (10 ^ (q).toNat)) / e1)) q).2.2.1)] 30 := fw105
     refine sa rfl rfl rfl rfl ?_
     refine wl_nil (q_n (k101 _ _ ?_))
     refine sx_sub (Sub.cons (t := 6) rfl (.cons (t := 7) rfl (.nil))) ?_
     refine sx_retc ?_
     refine sx_ret2 Try.results18 ⟨_, rfl, gw105.loadA (vs := [.bool ((decR (capI (ng x1) ((x1.natAbs * (10 ^ (q).toNat)) / e1)) q).1), s104, .int .i64 ((decR (capI (ng x1) ((x1.natAbs * (10 ^ (q).toNat)) / e1)) q).2.2.1)]) (look_lit rfl) Try.isAgg30 Try.sizeOf30⟩ rfl ?_
     have hcs : capI (ng x1) ((x1.natAbs * (10 ^ (q).toNat)) / e1) = rqI (x1 * tenI q) e1 m := by rw [capI_sgI (by rw [← e]; exact rq_len (k := 49) (by rw [na9]; omega)), ← e]; unfold rqI; rw [ng_ten]
     have hrl := rDec_len (n := ng x1) (z := dg x1.natAbs) (y := dg e1) (q := q) (m := m)
     rw [rDec_ok ⟨hR, hQ, hM⟩, ← hcs] at hrl ⊢
     have q112 := Chg.step (l := 0) (h := 0) (Chg.zero (l := 0) (h := 0) ((((((((((cb2.t cb4).t c13).t c18).t c24).t d44).t c45).t c49).t c58).t c103).t c104)) cw105 (by omega)
     have f113 := os_104.chg cw105 (by omega)
     exact ⟨_, rfl, (Own.mono f113 (by omega) (by omega)), hrl, q112⟩

theorem c_natGcd {w : World} {va : Value} {lva uva : Nat} {m : Nat} {vb : Value} {lvb uvb : Nat} {n : Nat} (hva : Sl w lva uva va (dg m)) (hvb : Sl w lvb uvb vb (dg n)) (hbm : (dg m).length ≤ 400) (hbn : (dg n).length ≤ 400) :
  Ret Try.prog 95 [va, vb] w fun v w' => ∃ s, v = s ∧ OwnI w' w.heap.size w'.heap.size s intT (dg (Nat.gcd m n)) ∧ Chg 0 0 w w' := by
 have hva0 := hva.fit
 have hvb0 := hvb.fit
 refine sx_enter Try.func95 rfl Try.ntmps95 (Nat.le_of_ble_eq_true rfl) ?_
 refine sx_seq fun K1 k1 => sx_region ?_
 refine sa rfl rfl rfl rfl ?_
 refine wl_nil (q_n (k1 _ _ ?_))
 refine sx_seq fun K2 k2 => ?_
 refine sx_block ?_
 refine sx_loop (fun mm aa w' => ∃ (xa : Value) (xb : Value) (m2 : Nat) (n2 : Nat), Agr 20 [(0, xa), (1, xb)] aa ∧ Chg 0 0 w w' ∧ Sv w' 0 w'.heap.size xa ((dg m2).length) 1 ((dg m2).map (Value.int .i64)) ∧ Sv w' 0 w'.heap.size xb ((dg n2).length) 1 ((dg n2).map (Value.int .i64)) ∧ (mm = n2) ∧ (Nat.gcd m2 n2 = Nat.gcd m n) ∧ ((dg m2).length ≤ 400 ∧ (dg n2).length ≤ 400)) (_) (fun a ha => ⟨va, vb, m, n, ha.sub (Sub.cons (t := 0) rfl (.cons (t := 1) rfl (.nil))), Chg.refl _ _ _, (hva0.mono (by omega) (by omega)), (hvb0.mono (by omega) (by omega)), rfl, rfl, by omega⟩) ?_
 rintro mm aa wl3 ⟨xa, xb, m2, n2, hAwl3, cwl3, hs_xa, hs_xb, hm, hg, hl2⟩
 refine (show cw Try.prog 20 _ _ _ wl3 from ?_) aa hAwl3
 clear hAwl3
 have zwl3 := cwl3.size
 refine sx_seq fun K4 k4 => ?_
 refine sx_seq fun K5 k5 => sx_region ?_
 refine sm rfl rfl rfl rfl ?_
 refine sx_pure rfl rfl rfl (px_len rfl Try.underlying22 hs_xb) ?_
 refine sx_pure rfl rfl rfl (px_gt rfl rfl) ?_
 refine wl_nil (q_n (k5 _ _ ?_))
 refine sx_condP rfl (fun h91 => ?_) (fun h91 => ?_)
 ·
  have hn0 : 0 < n2 := len_pos.1 (by omega)
  refine sx_skip ?_
  refine q_n (k4 _ _ ?_)
  refine sx_block ?_
  refine sx_seq fun K6 k6 => sx_region ?_
  refine sm rfl rfl rfl rfl ?_
  refine sm rfl rfl rfl rfl ?_
  refine sx_call rfl rfl Try.call43 (c_natDiv hs_xa hs_xb (by omega) (by omega) (by omega)) (fun v7 w7 p7 => ?_)
  obtain ⟨s7, t7, rfl, os_7, ot_7, c7⟩ := p7
  have zw7 := c7.size
  refine sm rfl rfl rfl rfl ?_
  refine sx_pure rfl rfl rfl (px_extract (vs := [s7, t7]) rfl rfl) ?_
  refine sx_pure rfl rfl rfl (px_extract (vs := [s7, t7]) rfl rfl) ?_
  refine sa rfl rfl rfl rfl ?_
  refine sa rfl rfl rfl rfl ?_
  refine wl_nil (q_n (k6 _ _ ?_))
  refine sx_region ?_
  refine sm rfl rfl rfl rfl ?_
  refine sm rfl rfl rfl rfl ?_
  refine sa rfl rfl rfl rfl ?_
  refine sa rfl rfl rfl rfl ?_
  refine wl_nil ?_
  have f8 := hs_xb.ext c7
  have hml := Nat.mod_lt m2 hn0
  have hll := len_mod (m := m2) hn0
  exact q_bn (fun a ha => ⟨_, by omega, xb, t7, n2, (m2 % n2), ha.sub (Sub.cons (t := 0) rfl (.cons (t := 1) rfl (.nil))), (cwl3.t c7), (f8.mono (by omega) (by omega)), (ot_7.sv.mono (by omega) (by omega)), rfl, gcd_next.trans hg, by omega⟩)
 ·
  refine sx_exit ?_
  refine q_e (q_e (q_bx (q_n (k2 _ _ ?_))))
  refine sx_seq fun K9 k9 => sx_region ?_
  refine sm rfl rfl rfl rfl ?_
  refine sx_call rfl rfl Try.call79 (c_natCopy hs_xa (by omega)) (fun v10 w10 p10 => ?_)
  obtain ⟨s10, rfl, os_10, c10⟩ := p10
  have zw10 := c10.size
  refine sa rfl rfl rfl rfl ?_
  refine wl_nil (q_n (k9 _ _ ?_))
  refine sx_retc ?_
  refine sx_ret1 Try.results95 rfl ?_
  have e0 : n2 = 0 := len_zero.1 (by omega)
  subst e0
  rw [Nat.gcd_zero_right] at hg
  rw [← hg]
  exact ⟨_, rfl, (Own.mono os_10 (by omega) (by omega)), (cwl3.t c10)⟩

theorem c_iRatOk {w : World} {n1 : Bool} {v1 : Value} {lv1 uv1 : Nat} {z1 : List Int} {d1 : Value} {ld1 ud1 : Nat} {y1 : List Int} (hv1 : Sl w lv1 uv1 v1 (z1)) (hd1 : Sl w ld1 ud1 d1 (y1)) (h63 : z1.length ≤ 4611686018427387904 ∧ y1.length ≤ 4611686018427387904) :
  Ret Try.prog 56 [.agg #[.bool n1, v1, d1]] w fun v w' => v = .bool (decide (ROk n1 z1 y1)) ∧ Chg 0 0 w w' := by
 have hv10 := hv1.fit
 have hd10 := hd1.fit
 refine sx_enter Try.func56 rfl Try.ntmps56 (Nat.le_of_ble_eq_true rfl) ?_
 refine sx_seq fun K1 k1 => sx_region ?_
 refine sx_box [.bool n1, v1, d1] rfl rfl rfl (fun b2 w3 eb2 sb2 fb2 cb2 => ?_)
 have zw3 := cb2.size
 refine sa rfl rfl rfl rfl ?_
 refine wl_nil (q_n (k1 _ _ ?_))
 refine sx_seq fun K4 k4 => ?_
 refine sx_seq fun K5 k5 => sx_region ?_
 refine sx_pure rfl rfl rfl (px_field rfl xfld44x0) ?_
 refine sx_pure rfl rfl rfl (px_load rfl (fb2.loadA (vs := [.bool n1, v1]) (look_lit rfl) Try.isAgg28 Try.sizeOf28)) ?_
 have f6 := hv10.ext cb2
 refine sx_call rfl rfl Try.call75 (c_iIntOk f6 (by omega)) (fun v7 w7 p7 => ?_)
 obtain ⟨rfl, c7⟩ := p7
 have zw7 := c7.size
 refine sx_pure rfl rfl rfl (px_notP rfl) ?_
 refine sm rfl rfl rfl rfl ?_
 refine sx_tmpP (t := 8) rfl (fun h14 => ?_) (fun h14 => ?_)
 ·
  refine sx_guardF rfl rfl rfl rfl rfl rfl ?_
  refine sx_guardF rfl rfl rfl rfl rfl rfl ?_
  refine sx_guardF rfl rfl rfl rfl rfl rfl ?_
  refine sx_guardF rfl rfl rfl rfl rfl rfl ?_
  refine sx_pure rfl rfl rfl (px_pick rfl rfl) ?_
  refine sm rfl rfl rfl rfl ?_
  refine sx_guardF rfl rfl rfl rfl rfl rfl ?_
  refine sx_guardF rfl rfl rfl rfl rfl rfl ?_
  refine sx_guardF rfl rfl rfl rfl rfl rfl ?_
  refine sx_guardF rfl rfl rfl rfl rfl rfl ?_
  refine sx_pure rfl rfl rfl (px_pick rfl rfl) ?_
  refine sm rfl rfl rfl rfl ?_
  refine sx_guardF rfl rfl rfl rfl rfl rfl ?_
  refine sx_guardF rfl rfl rfl rfl rfl rfl ?_
  refine sx_guardF rfl rfl rfl rfl rfl rfl ?_
  refine sx_guardF rfl rfl rfl rfl rfl rfl ?_
  refine sx_pure rfl rfl rfl (px_pick rfl rfl) ?_
  refine sm rfl rfl rfl rfl ?_
  refine sx_guardF rfl rfl rfl rfl rfl rfl ?_
  refine sx_guardF rfl rfl rfl rfl rfl rfl ?_
  refine sx_guardF rfl rfl rfl rfl rfl rfl ?_
  refine sx_guardF rfl rfl rfl rfl rfl rfl ?_
  refine sx_guardF rfl rfl rfl rfl rfl rfl ?_
  refine sx_pure rfl rfl rfl (px_pick rfl rfl) ?_
  refine wl_nil (q_n (k5 _ _ ?_))
  refine sx_sub (Sub.cons (t := 1) rfl (.cons (t := 2) rfl (.cons (t := 32) rfl (.nil)))) ?_
  refine sx_condT rfl ?_
  refine sx_seq fun K8 k8 => sx_region ?_
  refine sa rfl rfl rfl rfl ?_
  refine wl_nil (q_n (k8 _ _ ?_))
  refine sx_retc ?_
  refine q_r (sx_ret1 Try.results56 rfl ?_)
  exact ⟨(bFalse (by grind [ROk])), (cb2.t c7)⟩
 ·
  refine sx_guardT rfl rfl rfl ?_
  refine sx_pure rfl rfl rfl (px_field rfl xfld44x1) ?_
  refine sx_guardT rfl rfl rfl ?_
  have f9 := fb2.ext c7
  refine sx_pure rfl rfl rfl (px_load rfl (f9.load1 rfl Try.isAgg22)) ?_
  refine sx_guardT rfl rfl rfl ?_
  have f10 := hd10.ext cb2
  have f11 := f10.ext c7
  refine sx_call rfl rfl Try.call94 (c_iNatOk f11 (by omega)) (fun v12 w12 p12 => ?_)
  obtain ⟨rfl, c12⟩ := p12
  have zw12 := c12.size
  refine sx_guardT rfl rfl rfl ?_
  refine sx_pure rfl rfl rfl (px_notP rfl) ?_
  refine sx_pure rfl rfl rfl (px_pick rfl rfl) ?_
  refine sm rfl rfl rfl rfl ?_
  refine sx_tmpP (t := 14) rfl (fun h14x1 => ?_) (fun h14x1 => ?_)
  ·
   refine sx_guardF rfl rfl rfl rfl rfl rfl ?_
   refine sx_guardF rfl rfl rfl rfl rfl rfl ?_
   refine sx_guardF rfl rfl rfl rfl rfl rfl ?_
   refine sx_guardF rfl rfl rfl rfl rfl rfl ?_
   refine sx_pure rfl rfl rfl (px_pick rfl rfl) ?_
   refine sm rfl rfl rfl rfl ?_
   refine sx_guardF rfl rfl rfl rfl rfl rfl ?_
   refine sx_guardF rfl rfl rfl rfl rfl rfl ?_
   refine sx_guardF rfl rfl rfl rfl rfl rfl ?_
   refine sx_guardF rfl rfl rfl rfl rfl rfl ?_
   refine sx_pure rfl rfl rfl (px_pick rfl rfl) ?_
   refine sm rfl rfl rfl rfl ?_
   refine sx_guardF rfl rfl rfl rfl rfl rfl ?_
   refine sx_guardF rfl rfl rfl rfl rfl rfl ?_
   refine sx_guardF rfl rfl rfl rfl rfl rfl ?_
   refine sx_guardF rfl rfl rfl rfl rfl rfl ?_
   refine sx_guardF rfl rfl rfl rfl rfl rfl ?_
   refine sx_pure rfl rfl rfl (px_pick rfl rfl) ?_
   refine wl_nil (q_n (k5 _ _ ?_))
   refine sx_sub (Sub.cons (t := 1) rfl (.cons (t := 2) rfl (.cons (t := 32) rfl (.nil)))) ?_
   refine sx_condT rfl ?_
   refine sx_seq fun K13 k13 => sx_region ?_
   refine sa rfl rfl rfl rfl ?_
   refine wl_nil (q_n (k13 _ _ ?_))
   refine sx_retc ?_
   refine q_r (sx_ret1 Try.results56 rfl ?_)
   exact ⟨(bFalse (by grind [ROk])), ((cb2.t c7).t c12)⟩
  ·
   refine sx_guardT rfl rfl rfl ?_
   refine sx_pure rfl rfl rfl (px_field rfl xfld44x1) ?_
   refine sx_guardT rfl rfl rfl ?_
   have f14 := f9.ext c12
   refine sx_pure rfl rfl rfl (px_load rfl (f14.load1 rfl Try.isAgg22)) ?_
   refine sx_guardT rfl rfl rfl ?_
   have f15 := f11.ext c12
   refine sx_pure rfl rfl rfl (px_len rfl Try.underlying22 f15) ?_
   refine sx_guardT rfl rfl rfl ?_
   refine sx_pure rfl rfl rfl (px_eq rfl rfl) ?_
   refine sx_pure rfl rfl rfl (px_pick rfl rfl) ?_
   refine sm rfl rfl rfl rfl ?_
   refine sx_tmpP (t := 20) rfl (fun h14x2 => ?_) (fun h14x2 => ?_)
   ·
    refine sx_guardF rfl rfl rfl rfl rfl rfl ?_
    refine sx_guardF rfl rfl rfl rfl rfl rfl ?_
    refine sx_guardF rfl rfl rfl rfl rfl rfl ?_
    refine sx_guardF rfl rfl rfl rfl rfl rfl ?_
    refine sx_pure rfl rfl rfl (px_pick rfl rfl) ?_
    refine sm rfl rfl rfl rfl ?_
    refine sx_guardF rfl rfl rfl rfl rfl rfl ?_
    refine sx_guardF rfl rfl rfl rfl rfl rfl ?_
    refine sx_guardF rfl rfl rfl rfl rfl rfl ?_
    refine sx_guardF rfl rfl rfl rfl rfl rfl ?_
    refine sx_guardF rfl rfl rfl rfl rfl rfl ?_
    refine sx_pure rfl rfl rfl (px_pick rfl rfl) ?_
    refine wl_nil (q_n (k5 _ _ ?_))
    refine sx_sub (Sub.cons (t := 1) rfl (.cons (t := 2) rfl (.cons (t := 32) rfl (.nil)))) ?_
    refine sx_condT rfl ?_
    refine sx_seq fun K16 k16 => sx_region ?_
    refine sa rfl rfl rfl rfl ?_
    refine wl_nil (q_n (k16 _ _ ?_))
    refine sx_retc ?_
    refine q_r (sx_ret1 Try.results56 rfl ?_)
    exact ⟨(bFalse (by grind [ROk])), ((cb2.t c7).t c12)⟩
   ·
    refine sx_guardT rfl rfl rfl ?_
    refine sx_pure rfl rfl rfl (px_field rfl xfld44x1) ?_
    refine sx_guardT rfl rfl rfl ?_
    refine sx_pure rfl rfl rfl (px_load rfl (f14.load1 rfl Try.isAgg22)) ?_
    refine sx_guardT rfl rfl rfl ?_
    refine sx_pure rfl rfl rfl (px_len rfl Try.underlying22 f15) ?_
    refine sx_guardT rfl rfl rfl ?_
    refine sx_pure rfl rfl rfl (px_gt rfl rfl) ?_
    refine sx_pure rfl rfl rfl (px_pick rfl rfl) ?_
    refine sm rfl rfl rfl rfl ?_
    refine sx_tmpP (t := 26) rfl (fun h14x3 => ?_) (fun h14x3 => ?_)
    ·
     refine sx_guardF rfl rfl rfl rfl rfl rfl ?_
     refine sx_guardF rfl rfl rfl rfl rfl rfl ?_
     refine sx_guardF rfl rfl rfl rfl rfl rfl ?_
     refine sx_guardF rfl rfl rfl rfl rfl rfl ?_
     refine sx_guardF rfl rfl rfl rfl rfl rfl ?_
     refine sx_pure rfl rfl rfl (px_pick rfl rfl) ?_
     refine wl_nil (q_n (k5 _ _ ?_))
     refine sx_sub (Sub.cons (t := 1) rfl (.cons (t := 2) rfl (.cons (t := 32) rfl (.nil)))) ?_
     refine sx_condT rfl ?_
     refine sx_seq fun K17 k17 => sx_region ?_
     refine sa rfl rfl rfl rfl ?_
     refine wl_nil (q_n (k17 _ _ ?_))
     refine sx_retc ?_
     refine q_r (sx_ret1 Try.results56 rfl ?_)
     exact ⟨(bFalse (by grind [ROk])), ((cb2.t c7).t c12)⟩
    ·
     refine sx_guardT rfl rfl rfl ?_
     refine sx_pure rfl rfl rfl (px_field rfl xfld44x0) ?_
     refine sx_guardT rfl rfl rfl ?_
     refine sx_pure rfl rfl rfl (px_field rfl xfld28x1) ?_
     refine sx_guardT rfl rfl rfl ?_
     refine sx_pure rfl rfl rfl (px_load rfl (f14.load1 rfl Try.isAgg22)) ?_
     refine sx_guardT rfl rfl rfl ?_
     have f18 := f6.ext c7
     have f19 := f18.ext c12
     refine sx_pure rfl rfl rfl (px_len rfl Try.underlying22 f19) ?_
     refine sx_guardT rfl rfl rfl ?_
     refine sx_pure rfl rfl rfl (px_gt rfl rfl) ?_
     refine sx_pure rfl rfl rfl (px_pick rfl rfl) ?_
     refine wl_nil (q_n (k5 _ _ ?_))
     refine sx_sub (Sub.cons (t := 1) rfl (.cons (t := 2) rfl (.cons (t := 32) rfl (.nil)))) ?_
     refine sx_condP rfl (fun h14x4 => ?_) (fun h14x4 => ?_)
     ·
      refine sx_seq fun K20 k20 => sx_region ?_
      refine sa rfl rfl rfl rfl ?_
      refine wl_nil (q_n (k20 _ _ ?_))
      refine sx_retc ?_
      refine q_r (sx_ret1 Try.results56 rfl ?_)
      exact ⟨(bFalse (by grind [ROk])), ((cb2.t c7).t c12)⟩
     ·
      have hR1 := Decidable.not_not.1 h14
      have hR2 := Decidable.not_not.1 h14x1
      obtain ⟨x1, rfl, rfl, hx1⟩ := hR1.int
      obtain ⟨e1, rfl, he1⟩ := hR2.dg
      have he0 : 0 < e1 := len_pos.1 (by omega)
      have hk : ROk (ng x1) (dg x1.natAbs) (dg e1) ↔ dg (Nat.gcd x1.natAbs e1) = [1] := by rw [ROk_iff, dg_is_one]; exact ⟨fun h => h.2.2.2, fun h => ⟨he0, by omega, by omega, h⟩⟩
      refine sx_skip ?_
      refine q_n (k4 _ _ ?_)
      refine sx_seq fun K21 k21 => sx_region ?_
      refine sx_pure rfl rfl rfl (px_field rfl xfld44x0) ?_
      refine sx_pure rfl rfl rfl (px_field rfl xfld28x1) ?_
      refine sx_pure rfl rfl rfl (px_load rfl (f14.load1 rfl Try.isAgg22)) ?_
      refine sx_pure rfl rfl rfl (px_field rfl xfld44x1) ?_
      refine sx_pure rfl rfl rfl (px_load rfl (f14.load1 rfl Try.isAgg22)) ?_
      refine sx_call rfl rfl Try.call95 (c_natGcd f19 f15 (by omega) (by omega)) (fun v22 w22 p22 => ?_)
      obtain ⟨s22, rfl, os_22, c22⟩ := p22
      have zw22 := c22.size
      refine sa rfl rfl rfl rfl ?_
      refine wl_nil (q_n (k21 _ _ ?_))
      refine sx_seq fun K23 k23 => sx_region ?_
      refine sm rfl rfl rfl rfl ?_
      refine sx_pure rfl rfl rfl (px_len rfl Try.underlying22 os_22.sv) ?_
      refine sx_pure rfl rfl rfl (px_eq rfl rfl) ?_
      refine sm rfl rfl rfl rfl ?_
      refine sx_tmpP (t := 42) rfl (fun h18 => ?_) (fun h18 => ?_)
      ·
       refine sx_guardT rfl rfl rfl ?_
       refine sm rfl rfl rfl rfl ?_
       refine sx_guardT rfl rfl rfl ?_
       refine sx_pure rfl rfl rfl (px_index1 (j := 0) rfl rfl (by omega) Try.underlying22 Try.sizeOf3 os_22.sv (by omega)) ?_
       refine sx_guardT rfl rfl rfl ?_
       refine sx_pure rfl rfl rfl (px_load rfl (os_22.sv.load1 (at_int (by omega)) Try.isAgg3)) ?_
       refine sx_guardT rfl rfl rfl ?_
       refine sx_pure rfl rfl rfl (px_eq rfl rfl) ?_
       refine sx_pure rfl rfl rfl (px_pick rfl rfl) ?_
       refine sa rfl rfl rfl rfl ?_
       refine wl_nil (q_n (k23 _ _ ?_))
       refine sx_sub (Sub.cons (t := 2) rfl (.nil)) ?_
       refine sx_retc ?_
       refine sx_ret1 Try.results56 rfl ?_
       rw [one_iff] at hk
       exact ⟨(by first | exact bFalse (fun h => by have := hk.1 h; omega) | exact bIff ⟨fun h => hk.2 ⟨by omega, h⟩, fun h => (hk.1 h).2⟩), (((cb2.t c7).t c12).t c22)⟩
      ·
       refine sx_guardF rfl rfl rfl rfl rfl rfl ?_
       refine sx_guardF rfl rfl rfl rfl rfl rfl ?_
       refine sx_guardF rfl rfl rfl rfl rfl rfl ?_
       refine sx_guardF rfl rfl rfl rfl rfl rfl ?_
       refine sx_pure rfl rfl rfl (px_pick rfl rfl) ?_
       refine sa rfl rfl rfl rfl ?_
       refine wl_nil (q_n (k23 _ _ ?_))
       refine sx_sub (Sub.cons (t := 2) rfl (.nil)) ?_
       refine sx_retc ?_
       refine sx_ret1 Try.results56 rfl ?_
       rw [one_iff] at hk
       exact ⟨(by first | exact bFalse (fun h => by have := hk.1 h; omega) | exact bIff ⟨fun h => hk.2 ⟨by omega, h⟩, fun h => (hk.1 h).2⟩), (((cb2.t c7).t c12).t c22)⟩

theorem c_isMode {w : World} {m : Int} :
  Ret Try.prog 57 [.int .i64 m] w fun v w' => v = .bool (decide (0 ≤ m ∧ m ≤ 6)) ∧ Chg 0 0 w w' := by
 refine sx_enter Try.func57 rfl Try.ntmps57 (Nat.le_of_ble_eq_true rfl) ?_
 refine sx_seq fun K1 k1 => sx_region ?_
 refine sa rfl rfl rfl rfl ?_
 refine wl_nil (q_n (k1 _ _ ?_))
 refine sx_seq fun K2 k2 => sx_region ?_
 refine sm rfl rfl rfl rfl ?_
 refine sx_pure rfl rfl rfl (px_ge rfl rfl) ?_
 refine sm rfl rfl rfl rfl ?_
 refine sx_tmpP (t := 5) rfl (fun h34 => ?_) (fun h34 => ?_)
 ·
  refine sx_guardT rfl rfl rfl ?_
  refine sm rfl rfl rfl rfl ?_
  refine sx_guardT rfl rfl rfl ?_
  refine sx_pure rfl rfl rfl (px_le rfl rfl) ?_
  refine sx_pure rfl rfl rfl (px_pick rfl rfl) ?_
  refine sa rfl rfl rfl rfl ?_
  refine wl_nil (q_n (k2 _ _ ?_))
  refine sx_retc ?_
  refine sx_ret1 Try.results57 rfl ?_
  exact ⟨(by first | exact bTrue (by grind) | exact bFalse (by grind) | exact bIff (by grind)), (Chg.refl 0 0 _)⟩
 ·
  refine sx_guardF rfl rfl rfl rfl rfl rfl ?_
  refine sx_guardF rfl rfl rfl rfl rfl rfl ?_
  refine sx_pure rfl rfl rfl (px_pick rfl rfl) ?_
  refine sa rfl rfl rfl rfl ?_
  refine wl_nil (q_n (k2 _ _ ?_))
  refine sx_retc ?_
  refine sx_ret1 Try.results57 rfl ?_
  exact ⟨(by first | exact bTrue (by grind) | exact bFalse (by grind) | exact bIff (by grind)), (Chg.refl 0 0 _)⟩

theorem c_ratNum {w : World} {va : Value} {lva uva : Nat} {x : Int} {vd : Value} {lvd uvd : Nat} {yy : List Int} {vb : Value} {lvb uvb : Nat} {b : Nat} (hva : Sl w lva uva va (dg x.natAbs)) (hvd : Sl w lvd uvd vd (yy)) (hvb : Sl w lvb uvb vb (dg b)) (hbx : (dg x.natAbs).length ≤ 1000) (hbb : (dg b).length ≤ 1000) :
  Ret Try.prog 59 [.agg #[.bool (ng x), va, vd], vb] w fun v w' => ∃ s, v = .agg #[.bool (ng (x * ((b : Nat) : Int))), s] ∧ OwnI w' w.heap.size w'.heap.size s intT (dg (x * ((b : Nat) : Int)).natAbs) ∧ Chg 0 0 w w' := by
 have hva0 := hva.fit
 have hvd0 := hvd.fit
 have hvb0 := hvb.fit
 have lmb := len_mul x.natAbs b
 refine sx_enter Try.func59 rfl Try.ntmps59 (Nat.le_of_ble_eq_true rfl) ?_
 refine sx_seq fun K1 k1 => sx_region ?_
 refine sx_box [.bool (ng x), va, vd] rfl rfl rfl (fun b2 w3 eb2 sb2 fb2 cb2 => ?_)
 have zw3 := cb2.size
 refine sx_alloc [.bool false, (.slice none 0 0)] rfl Try.zeroValue28 rfl (fun b4 w5 eb4 sb4 fb4 cb4 => ?_)
 have zw5 := cb4.size
 refine wl_nil (q_n (k1 _ _ ?_))
 refine sx_seq fun K6 k6 => ?_
 have f7 := fb2.ext cb4
 have f8 := hva0.ext cb2
 have f9 := f8.ext cb4
 have f10 := hvd0.ext cb2
 have f11 := f10.ext cb4
 have f12 := hvb0.ext cb2
 have f13 := f12.ext cb4
 refine dx_region (fun w' => Chg b4 (b4 + 1) w5 w') (by kernel_rfl) (Chg.zero (Chg.drew _)) ?_
 have d14 := Chg.drew w5
 have s14 : Chg b4 (b4 + 1) w5 (World.drew w5) := Chg.zero (Chg.drew _)
 have y14 : (World.drew w5).heap.size = w5.heap.size := rfl
 generalize World.drew w5 = w14 at *
 have zw14 := d14.size
 refine dx_take 0 rfl rfl rfl rfl (by kernel_rfl) (by kernel_rfl) (by kernel_rfl) s14 (fun _ hS => px_field rfl xfld44x0) ?_
 refine dx_take 1 rfl rfl rfl rfl (by kernel_rfl) (by kernel_rfl) (by kernel_rfl) s14 (fun _ hS => px_field rfl xfld28x0) ?_
 refine dx_take 2 rfl rfl rfl rfl (by kernel_rfl) (by kernel_rfl) (by kernel_rfl) s14 (fun _ hS => px_load rfl ((f7.chg hS (by omega)).load1 rfl Try.isAgg4)) ?_
 refine dx_take 3 rfl rfl rfl rfl (by kernel_rfl) (by kernel_rfl) (by kernel_rfl) s14 (fun _ hS => px_field rfl xfld44x0) ?_
 refine dx_take 4 rfl rfl rfl rfl (by kernel_rfl) (by kernel_rfl) (by kernel_rfl) s14 (fun _ hS => px_field rfl xfld28x1) ?_
 refine dx_take 5 rfl rfl rfl rfl (by kernel_rfl) (by kernel_rfl) (by kernel_rfl) s14 (fun _ hS => px_load rfl ((f7.chg hS (by omega)).load1 rfl Try.isAgg22)) ?_
 refine dx_take 6 rfl rfl rfl rfl (by kernel_rfl) (by kernel_rfl) (by kernel_rfl) s14 (fun _ hS => px_move rfl) ?_
 refine dx_eff 7 rfl (by kernel_rfl) ?_
 have f15 := f9.ext d14
 have f16 := f13.ext d14
 refine sx_call rfl rfl Try.call77 (c_natMul f15 f16 (by omega) (by omega)) (fun v17 w17 p17 => ?_)
 obtain ⟨s17, rfl, os_17, c17⟩ := p17
 have zw17 := c17.size
 have s18 : Chg b4 (b4 + 1) w5 w17 := (Chg.zero (l := b4) (h := (b4 + 1)) (d14.t c17))
 refine wl_nil ?_
 refine dx_next s18 ?_
 refine dx_eff 8 rfl (by kernel_rfl) ?_
 refine sx_call rfl rfl Try.call45 (c_signed os_17.sv (by omega)) (fun v19 w19 p19 => ?_)
 obtain ⟨rfl, c19⟩ := p19
 have zw19 := c19.size
 have s20 : Chg b4 (b4 + 1) w5 w19 := (Chg.zero (l := b4) (h := (b4 + 1)) ((d14.t c17).t c19))
 refine wl_nil ?_
 refine dx_next s20 ?_
 refine dx_eff 9 rfl (by kernel_rfl) ?_
 have f22 := fb4.ext d14
 have f23 := f22.ext c17
 have f24 := f23.ext c19
 have f25 := os_17.ext c19
 refine sx_store (vs := [.bool (nz (ng x) (dg (x.natAbs * b))), v17]) rfl rfl f24 rfl Try.sizeOf28 (Nat.le_of_ble_eq_true rfl) (one_cons rfl (one_cons f25.one one_nil)) (fun w21 sw21 fw21 cw21 => ?_)
 have zw21 := cw21.size
 have gw21 : Blk w21 b4 [.bool (nz (ng x) (dg (x.natAbs * b))), v17] 28 := fw21
 have q27 := Chg.step (l := b4) (h := (b4 + 1)) (Chg.zero (l := b4) (h := (b4 + 1)) ((d14.t c17).t c19)) cw21 (by omega)
 have s26 : Chg b4 (b4 + 1) w5 w21 := q27
 refine wl_nil ?_
 refine dx_next s26 ?_
 refine dx_done (by kernel_rfl) ?_
 refine q_n (k6 _ _ ?_)
 refine sx_retc ?_
 refine sx_ret1 Try.results59 ⟨_, rfl, gw21.loadA (vs := [.bool (nz (ng x) (dg (x.natAbs * b))), v17]) (look_lit rfl) Try.isAgg28 Try.sizeOf28⟩ ?_
 have hh := mul_nat_sg x b
 rw [← hh.1, ← hh.2]
 have q28 := Chg.step (l := 0) (h := 0) (Chg.zero (l := 0) (h := 0) ((((cb2.t cb4).t d14).t c17).t c19)) cw21 (by omega)
 have f29 := f25.chg cw21 (by omega)
 exact ⟨_, rfl, (Own.mono f29 (by omega) (by omega)), q28⟩

theorem c_rm1 {w : World} {n : Bool} {c : Int} {o : Bool} :
  Ret Try.prog 114 [.bool n, .int .i64 c, .bool o] w fun v w' => v = .bool (awayB 0 n c o) ∧ Chg 0 0 w w' := by
 refine sx_enter Try.func114 rfl Try.ntmps114 (Nat.le_of_ble_eq_true rfl) ?_
 refine sx_seq fun K1 k1 => sx_region ?_
 refine sa rfl rfl rfl rfl ?_
 refine wl_nil (q_n (k1 _ _ ?_))
 refine sx_seq fun K2 k2 => sx_region ?_
 refine sa rfl rfl rfl rfl ?_
 refine wl_nil (q_n (k2 _ _ ?_))
 refine sx_retc ?_
 refine sx_ret1 Try.results114 rfl ?_
 exact ⟨(by first | rfl | (simp_all [awayB]; done) | grind [awayB]), (Chg.refl 0 0 _)⟩

theorem c_rm2 {w : World} {n : Bool} {c : Int} {o : Bool} :
  Ret Try.prog 115 [.bool n, .int .i64 c, .bool o] w fun v w' => v = .bool (awayB 1 n c o) ∧ Chg 0 0 w w' := by
 refine sx_enter Try.func115 rfl Try.ntmps115 (Nat.le_of_ble_eq_true rfl) ?_
 refine sx_seq fun K1 k1 => sx_region ?_
 refine sa rfl rfl rfl rfl ?_
 refine wl_nil (q_n (k1 _ _ ?_))
 refine sx_seq fun K2 k2 => sx_region ?_
 refine sa rfl rfl rfl rfl ?_
 refine wl_nil (q_n (k2 _ _ ?_))
 refine sx_retc ?_
 refine sx_ret1 Try.results115 rfl ?_
 exact ⟨(by first | rfl | (simp_all [awayB]; done) | grind [awayB]), (Chg.refl 0 0 _)⟩

theorem c_rm3 {w : World} {n : Bool} {c : Int} {o : Bool} :
  Ret Try.prog 116 [.bool n, .int .i64 c, .bool o] w fun v w' => v = .bool (awayB 2 n c o) ∧ Chg 0 0 w w' := by
 refine sx_enter Try.func116 rfl Try.ntmps116 (Nat.le_of_ble_eq_true rfl) ?_
 refine sx_seq fun K1 k1 => sx_region ?_
 refine sa rfl rfl rfl rfl ?_
 refine wl_nil (q_n (k1 _ _ ?_))
 refine sx_seq fun K2 k2 => sx_region ?_
 refine sm rfl rfl rfl rfl ?_
 refine sa rfl rfl rfl rfl ?_
 refine wl_nil (q_n (k2 _ _ ?_))
 refine sx_retc ?_
 refine sx_ret1 Try.results116 rfl ?_
 exact ⟨(by first | rfl | (simp_all [awayB]; done) | grind [awayB]), (Chg.refl 0 0 _)⟩

theorem c_rm4 {w : World} {n : Bool} {c : Int} {o : Bool} :
  Ret Try.prog 117 [.bool n, .int .i64 c, .bool o] w fun v w' => v = .bool (awayB 3 n c o) ∧ Chg 0 0 w w' := by
 refine sx_enter Try.func117 rfl Try.ntmps117 (Nat.le_of_ble_eq_true rfl) ?_
 refine sx_seq fun K1 k1 => sx_region ?_
 refine sa rfl rfl rfl rfl ?_
 refine wl_nil (q_n (k1 _ _ ?_))
 refine sx_seq fun K2 k2 => sx_region ?_
 refine sm rfl rfl rfl rfl ?_
 refine sx_pure rfl rfl rfl (px_not rfl) ?_
 refine sa rfl rfl rfl rfl ?_
 refine wl_nil (q_n (k2 _ _ ?_))
 refine sx_retc ?_
 refine sx_ret1 Try.results117 rfl ?_
 exact ⟨(by first | rfl | (simp_all [awayB]; done) | grind [awayB]), (Chg.refl 0 0 _)⟩

theorem c_rm5 {w : World} {n : Bool} {c : Int} {o : Bool} :
  Ret Try.prog 118 [.bool n, .int .i64 c, .bool o] w fun v w' => v = .bool (awayB 4 n c o) ∧ Chg 0 0 w w' := by
 refine sx_enter Try.func118 rfl Try.ntmps118 (Nat.le_of_ble_eq_true rfl) ?_
 refine sx_seq fun K1 k1 => sx_region ?_
 refine sa rfl rfl rfl rfl ?_
 refine wl_nil (q_n (k1 _ _ ?_))
 refine sx_seq fun K2 k2 => sx_region ?_
 refine sm rfl rfl rfl rfl ?_
 refine sx_pure rfl rfl rfl (px_gt rfl rfl) ?_
 refine sa rfl rfl rfl rfl ?_
 refine wl_nil (q_n (k2 _ _ ?_))
 refine sx_retc ?_
 refine sx_ret1 Try.results118 rfl ?_
 exact ⟨(by first | rfl | (simp_all [awayB]; done) | grind [awayB]), (Chg.refl 0 0 _)⟩

theorem c_rm6 {w : World} {n : Bool} {c : Int} {o : Bool} :
  Ret Try.prog 119 [.bool n, .int .i64 c, .bool o] w fun v w' => v = .bool (awayB 5 n c o) ∧ Chg 0 0 w w' := by
 refine sx_enter Try.func119 rfl Try.ntmps119 (Nat.le_of_ble_eq_true rfl) ?_
 refine sx_seq fun K1 k1 => sx_region ?_
 refine sa rfl rfl rfl rfl ?_
 refine wl_nil (q_n (k1 _ _ ?_))
 refine sx_seq fun K2 k2 => sx_region ?_
 refine sm rfl rfl rfl rfl ?_
 refine sx_pure rfl rfl rfl (px_ge rfl rfl) ?_
 refine sa rfl rfl rfl rfl ?_
 refine wl_nil (q_n (k2 _ _ ?_))
 refine sx_retc ?_
 refine sx_ret1 Try.results119 rfl ?_
 exact ⟨(by first | rfl | (simp_all [awayB]; done) | grind [awayB]), (Chg.refl 0 0 _)⟩

theorem c_rm7 {w : World} {n : Bool} {c : Int} {o : Bool} :
  Ret Try.prog 120 [.bool n, .int .i64 c, .bool o] w fun v w' => v = .bool (awayB 6 n c o) ∧ Chg 0 0 w w' := by
 refine sx_enter Try.func120 rfl Try.ntmps120 (Nat.le_of_ble_eq_true rfl) ?_
 refine sx_seq fun K1 k1 => sx_region ?_
 refine sa rfl rfl rfl rfl ?_
 refine wl_nil (q_n (k1 _ _ ?_))
 refine sx_seq fun K2 k2 => sx_region ?_
 refine sm rfl rfl rfl rfl ?_
 refine sx_pure rfl rfl rfl (px_gt rfl rfl) ?_
 refine sm rfl rfl rfl rfl ?_
 refine sx_tmpP (t := 9) rfl (fun h29 => ?_) (fun h29 => ?_)
 ·
  refine sx_guardF rfl rfl rfl rfl rfl rfl ?_
  refine sx_guardF rfl rfl rfl rfl rfl rfl ?_
  refine sx_guardF rfl rfl rfl rfl rfl rfl ?_
  refine sx_guardFU rfl rfl rfl rfl rfl ?_
  refine sx_guardF rfl rfl rfl rfl rfl rfl ?_
  refine sx_pure rfl rfl rfl (px_pick rfl rfl) ?_
  refine sa rfl rfl rfl rfl ?_
  refine wl_nil (q_n (k2 _ _ ?_))
  refine sx_retc ?_
  refine sx_ret1 Try.results120 rfl ?_
  exact ⟨(by first | rfl | (simp_all [awayB]; done) | grind [awayB]), (Chg.refl 0 0 _)⟩
 ·
  refine sx_guardT rfl rfl rfl ?_
  refine sm rfl rfl rfl rfl ?_
  refine sx_guardT rfl rfl rfl ?_
  refine sx_pure rfl rfl rfl (px_eq rfl rfl) ?_
  refine sx_guardT rfl rfl rfl ?_
  refine sm rfl rfl rfl rfl ?_
  refine sx_tmpP (t := 12) rfl (fun h29x1 => ?_) (fun h29x1 => ?_)
  ·
   refine sx_guardT rfl rfl rfl ?_
   refine sm rfl rfl rfl rfl ?_
   refine sx_guardT rfl rfl rfl ?_
   refine sx_pure rfl rfl rfl (px_pick rfl rfl) ?_
   refine sx_pure rfl rfl rfl (px_pick rfl rfl) ?_
   refine sa rfl rfl rfl rfl ?_
   refine wl_nil (q_n (k2 _ _ ?_))
   refine sx_retc ?_
   refine sx_ret1 Try.results120 rfl ?_
   exact ⟨(by first | rfl | (simp_all [awayB]; done) | grind [awayB]), (Chg.refl 0 0 _)⟩
  ·
   refine sx_guardF rfl rfl rfl rfl rfl rfl ?_
   refine sx_guardT rfl rfl rfl ?_
   refine sx_pure rfl rfl rfl (px_pick rfl rfl) ?_
   refine sx_pure rfl rfl rfl (px_pick rfl rfl) ?_
   refine sa rfl rfl rfl rfl ?_
   refine wl_nil (q_n (k2 _ _ ?_))
   refine sx_retc ?_
   refine sx_ret1 Try.results120 rfl ?_
   exact ⟨(by first | rfl | (simp_all [awayB]; done) | grind [awayB]), (Chg.refl 0 0 _)⟩

theorem c_away {w : World} {n o : Bool} {c m : Int} (hm : 0 ≤ m ∧ m ≤ 6) :
  Ret Try.prog (rmF m) [.bool n, .int .i64 c, .bool o] w fun v w' => v = .bool (awayB m n c o) ∧ Chg 0 0 w w' := by
 rcases rm_cases hm with h | h | h | h | h | h | h
 · subst h; exact c_rm1
 · subst h; exact c_rm2
 · subst h; exact c_rm3
 · subst h; exact c_rm4
 · subst h; exact c_rm5
 · subst h; exact c_rm6
 · subst h; exact c_rm7

theorem c_roundModes {w : World} :
  Ret Try.prog 96 [] w fun v w' => v = .agg #[.string ⟨#[100, 111, 119, 110]⟩, .func (.func 114) #[] #[], .string ⟨#[117, 112]⟩, .func (.func 115) #[] #[], .string ⟨#[102, 108, 111, 111, 114]⟩, .func (.func 116) #[] #[], .string ⟨#[99, 101, 105, 108]⟩, .func (.func 117) #[] #[], .string ⟨#[104, 97, 108, 102, 100, 111, 119, 110]⟩, .func (.func 118) #[] #[], .string ⟨#[104, 97, 108, 102, 117, 112]⟩, .func (.func 119) #[] #[], .string ⟨#[104, 97, 108, 102, 101, 118, 101, 110]⟩, .func (.func 120) #[] #[]] ∧ Chg 0 0 w w' := by
 refine sx_enter Try.func96 rfl Try.ntmps96 (Nat.le_of_ble_eq_true rfl) ?_
 refine sx_seq fun K1 k1 => sx_region ?_
 refine sx_alloc [.string (⟨#[]⟩), .nilFunc, .string (⟨#[]⟩), .nilFunc, .string (⟨#[]⟩), .nilFunc, .string (⟨#[]⟩), .nilFunc, .string (⟨#[]⟩), .nilFunc, .string (⟨#[]⟩), .nilFunc, .string (⟨#[]⟩), .nilFunc] rfl Try.zeroValue93 rfl (fun b2 w3 eb2 sb2 fb2 cb2 => ?_)
 have zw3 := cb2.size
 refine wl_nil (q_n (k1 _ _ ?_))
 refine sx_seq fun K4 k4 => sx_region ?_
 refine sx_pure rfl rfl rfl (px_build rfl (xbld92x0x1 rfl rfl _)) ?_
 refine sx_pure rfl rfl rfl (px_build rfl (xbld92x0x1 rfl rfl _)) ?_
 refine sx_pure rfl rfl rfl (px_build rfl (xbld92x0x1 rfl rfl _)) ?_
 refine sx_pure rfl rfl rfl (px_build rfl (xbld92x0x1 rfl rfl _)) ?_
 refine sx_pure rfl rfl rfl (px_build rfl (xbld92x0x1 rfl rfl _)) ?_
 refine sx_pure rfl rfl rfl (px_build rfl (xbld92x0x1 rfl rfl _)) ?_
 refine sx_pure rfl rfl rfl (px_build rfl (xbld92x0x1 rfl rfl _)) ?_
 refine sx_pure rfl rfl rfl (px_build rfl (xbld93x0x1x2x3x4x5x6 _)) ?_
 refine sx_store (vs := [.string (⟨#[100, 111, 119, 110]⟩), .func (.func 114) #[] #[], .string (⟨#[117, 112]⟩), .func (.func 115) #[] #[], .string (⟨#[102, 108, 111, 111, 114]⟩), .func (.func 116) #[] #[], .string (⟨#[99, 101, 105, 108]⟩), .func (.func 117) #[] #[], .string (⟨#[104, 97, 108, 102, 100, 111, 119, 110]⟩), .func (.func 118) #[] #[], .string (⟨#[104, 97, 108, 102, 117, 112]⟩), .func (.func 119) #[] #[], .string (⟨#[104, 97, 108, 102, 101, 118, 101, 110]⟩), .func (.func 120) #[] #[]]) rfl rfl fb2 rfl Try.sizeOf93 (Nat.le_of_ble_eq_true rfl) (one_cons rfl (one_cons rfl (one_cons rfl (one_cons rfl (one_cons rfl (one_cons rfl (one_cons rfl (one_cons rfl (one_cons rfl (one_cons rfl (one_cons rfl (one_cons rfl (one_cons rfl (one_cons rfl one_nil)))))))))))))) (fun w5 sw5 fw5 cw5 => ?_)
 have zw5 := cw5.size
 have gw5 : Blk w5 b2 [.string (⟨#[100, 111, 119, 110]⟩), .func (.func 114) #[] #[], .string (⟨#[117, 112]⟩), .func (.func 115) #[] #[], .string (⟨#[102, 108, 111, 111, 114]⟩), .func (.func 116) #[] #[], .string (⟨#[99, 101, 105, 108]⟩), .func (.func 117) #[] #[], .string (⟨#[104, 97, 108, 102, 100, 111, 119, 110]⟩), .func (.func 118) #[] #[], .string (⟨#[104, 97, 108, 102, 117, 112]⟩), .func (.func 119) #[] #[], .string (⟨#[104, 97, 108, 102, 101, 118, 101, 110]⟩), .func (.func 120) #[] #[]] 93 := fw5
 refine wl_nil (q_n (k4 _ _ ?_))
 refine sx_retc ?_
 refine sx_ret1 Try.results96 ⟨_, rfl, gw5.loadA (vs := [.string (⟨#[100, 111, 119, 110]⟩), .func (.func 114) #[] #[], .string (⟨#[117, 112]⟩), .func (.func 115) #[] #[], .string (⟨#[102, 108, 111, 111, 114]⟩), .func (.func 116) #[] #[], .string (⟨#[99, 101, 105, 108]⟩), .func (.func 117) #[] #[], .string (⟨#[104, 97, 108, 102, 100, 111, 119, 110]⟩), .func (.func 118) #[] #[], .string (⟨#[104, 97, 108, 102, 117, 112]⟩), .func (.func 119) #[] #[], .string (⟨#[104, 97, 108, 102, 101, 118, 101, 110]⟩), .func (.func 120) #[] #[]]) (look_lit rfl) Try.isAgg93 Try.sizeOf93⟩ ?_
 have q6 := Chg.step (l := 0) (h := 0) (Chg.zero (l := 0) (h := 0) cb2) cw5 (by omega)
 exact ⟨rfl, q6⟩

theorem c_natAdd {w : World} {va : Value} {lva uva : Nat} {m : Nat} {vb : Value} {lvb uvb : Nat} {n : Nat} (hva : Sl w lva uva va (dg m)) (hvb : Sl w lvb uvb vb (dg n)) (hbm : (dg m).length ≤ 1000) (hbn : (dg n).length ≤ 1000) :
  Ret Try.prog 97 [va, vb] w fun v w' => ∃ s, v = s ∧ OwnI w' w.heap.size w'.heap.size s intT (dg (m + n)) ∧ Chg 0 0 w w' := by
 have hva0 := hva.fit
 have hvb0 := hvb.fit
 refine sx_enter Try.func97 rfl Try.ntmps97 (Nat.le_of_ble_eq_true rfl) ?_
 refine sx_seq fun K1 k1 => sx_region ?_
 refine sa rfl rfl rfl rfl ?_
 refine wl_nil (q_n (k1 _ _ ?_))
 refine sx_seq fun K2 k2 => sx_region ?_
 refine sm rfl rfl rfl rfl ?_
 refine sx_pure rfl rfl rfl (px_len rfl Try.underlying22 hva0) ?_
 refine sm rfl rfl rfl rfl ?_
 refine sx_pure rfl rfl rfl (px_len rfl Try.underlying22 hvb0) ?_
 refine sx_pure rfl rfl rfl (px_max rfl rfl) ?_
 refine sx_pure rfl rfl rfl (px_add rfl rfl (by omega)) ?_
 refine sx_make0 (c := max (dg m).length (dg n).length + 1) rfl xelt22 rfl (look_int rfl (by omega)) (by omega) (by unfold maxLen; omega) (fun s3 ws3 fs3 cs3 ls3 => ?_)
 have zws3 := cs3.size
 refine sa rfl rfl rfl rfl ?_
 refine wl_nil (q_n (k2 _ _ ?_))
 refine sx_seq fun K4 k4 => sx_region ?_
 refine sa rfl rfl rfl rfl ?_
 refine wl_nil (q_n (k4 _ _ ?_))
 refine sx_seq fun K5 k5 => ?_
 refine sx_seq fun K6 k6 => sx_region ?_
 refine sa rfl rfl rfl rfl ?_
 refine wl_nil (q_n (k6 _ _ ?_))
 refine sx_block ?_
 refine sx_loop (fun mm aa w' => ∃ (k : Nat) (s : Value) (os : List Int) (c : Nat), Agr 56 [(0, va), (1, vb), (5, s), (6, .int .i64 ((c : Nat) : Int)), (7, .int .i64 ↑k)] aa ∧ Chg w.heap.size ws3.heap.size ws3 w' ∧ Own w' w.heap.size w'.heap.size s intT os.length 1 (os.map (Value.int .i64)) ∧ (mm = max (dg m).length (dg n).length + 1 - k) ∧ (os.length = k) ∧ (Lm os) ∧ (c ≤ 1) ∧ (k ≤ max (dg m).length (dg n).length) ∧ (vl os + Bs ^ k * c = vl ((dg m).take k) + vl ((dg n).take k))) (_) (fun a ha => ⟨0, s3, [], 0, ha.sub (Sub.cons (t := 0) rfl (.cons (t := 1) rfl (.cons (t := 5) rfl (.cons (t := 6) (look_int (t := 6) rfl (by first | omega | simp)) (.cons (t := 7) (look_int (t := 7) rfl (by first | omega | simp)) (.nil)))))), Chg.refl _ _ _, (fs3.mono (by omega) (by omega)), rfl, rfl, Lm.nil, by omega, by omega, by simp [vl]⟩) ?_
 rintro mm aa wl7 ⟨k, s, os, c, hAwl7, cwl7, hs_s, hm, hos, hlm, hc, hk, hv⟩
 refine (show cw Try.prog 56 _ _ _ wl7 from ?_) aa hAwl7
 clear hAwl7
 have zwl7 := cwl7.size
 have am := (Lm_dg m).getD k
 have bn := (Lm_dg n).getD k
 refine sx_seq fun K8 k8 => ?_
 refine sx_seq fun K9 k9 => sx_region ?_
 refine sm rfl rfl rfl rfl ?_
 refine sm rfl rfl rfl rfl ?_
 have f10 := hva0.ext cs3
 have f11 := f10.chg cwl7 (by omega)
 refine sx_pure rfl rfl rfl (px_len rfl Try.underlying22 f11) ?_
 refine sm rfl rfl rfl rfl ?_
 have f12 := hvb0.ext cs3
 have f13 := f12.chg cwl7 (by omega)
 refine sx_pure rfl rfl rfl (px_len rfl Try.underlying22 f13) ?_
 refine sx_pure rfl rfl rfl (px_max rfl rfl) ?_
 refine sx_pure rfl rfl rfl (px_lt rfl rfl) ?_
 refine wl_nil (q_n (k9 _ _ ?_))
 refine sx_condP rfl (fun h105 => ?_) (fun h105 => ?_)
 ·
  refine sx_skip ?_
  refine q_n (k8 _ _ ?_)
  refine sx_seq fun K14 k14 => ?_
  refine sx_block ?_
  refine sx_seq fun K15 k15 => ?_
  refine sx_seq fun K16 k16 => sx_region ?_
  refine sm rfl rfl rfl rfl ?_
  refine sm rfl rfl rfl rfl ?_
  refine sx_pure rfl rfl rfl (px_len rfl Try.underlying22 f11) ?_
  refine sx_pure rfl rfl rfl (px_lt rfl rfl) ?_
  refine wl_nil (q_n (k16 _ _ ?_))
  refine sx_sub (Sub.cons (t := 0) rfl (.cons (t := 1) rfl (.cons (t := 5) rfl (.cons (t := 6) rfl (.cons (t := 7) rfl (.cons (t := 27) rfl (.nil))))))) ?_
  refine sx_condP rfl (fun h106 => ?_) (fun h106 => ?_)
  ·
   refine sx_region ?_
   refine sm rfl rfl rfl rfl ?_
   refine sm rfl rfl rfl rfl ?_
   refine sm rfl rfl rfl rfl ?_
   refine sx_pure rfl rfl rfl (px_index1 (j := k) rfl rfl (by omega) Try.underlying22 Try.sizeOf3 f11 (by omega)) ?_
   refine sx_pure rfl rfl rfl (px_load rfl (f11.load1 (at_int (by omega)) Try.isAgg3)) ?_
   refine sx_pure rfl rfl rfl (px_add rfl rfl (by omega)) ?_
   refine sa rfl rfl rfl rfl ?_
   refine wl_nil (q_n (k15 _ _ ?_))
   refine sx_seq fun K17 k17 => ?_
   refine sx_seq fun K18 k18 => sx_region ?_
   refine sm rfl rfl rfl rfl ?_
   refine sm rfl rfl rfl rfl ?_
   refine sx_pure rfl rfl rfl (px_len rfl Try.underlying22 f13) ?_
   refine sx_pure rfl rfl rfl (px_lt rfl rfl) ?_
   refine wl_nil (q_n (k18 _ _ ?_))
   refine sx_sub (Sub.cons (t := 0) rfl (.cons (t := 1) rfl (.cons (t := 5) rfl (.cons (t := 6) rfl (.cons (t := 7) rfl (.cons (t := 37) rfl (.nil))))))) ?_
   refine sx_condP rfl (fun h109 => ?_) (fun h109 => ?_)
   ·
    refine sx_region ?_
    refine sm rfl rfl rfl rfl ?_
    refine sm rfl rfl rfl rfl ?_
    refine sm rfl rfl rfl rfl ?_
    refine sx_pure rfl rfl rfl (px_index1 (j := k) rfl rfl (by omega) Try.underlying22 Try.sizeOf3 f13 (by omega)) ?_
    refine sx_pure rfl rfl rfl (px_load rfl (f13.load1 (at_int (by omega)) Try.isAgg3)) ?_
    refine sx_pure rfl rfl rfl (px_add rfl rfl (by omega)) ?_
    refine sa rfl rfl rfl rfl ?_
    refine wl_nil (q_n (k17 _ _ ?_))
    refine sx_seq fun K19 k19 => sx_region ?_
    refine sm rfl rfl rfl rfl ?_
    refine sm rfl rfl rfl rfl ?_
    refine sx_pure rfl rfl rfl (px_rem rfl rfl (by omega) (by omega)) ?_
    refine sx_lit1 rfl xelt22 rfl rfl (fun s20 ws20 ss20 fs20 cs20 => ?_)
    have ns20 := Own.norm (f := (Value.int .i64)) (zs := [((((c : Nat) : Int) + ((dg m).getD k 0)) + ((dg n).getD k 0)) % 1000000000]) fs20
    have zws20 := cs20.size
    have f22 := hs_s.ext cs20
    refine sx_append rfl xelt22 rfl rfl f22 ns20.sv one_int (by omega) (by simp only [List.length_cons, List.length_nil]; omega) (by unfold maxLen; simp only [List.length_cons, List.length_nil]; omega) (fun a21 w21 fw21 cw21 => ?_)
    have nw21 := Own.app (f := (Value.int .i64)) (a := os) (b := [((((c : Nat) : Int) + ((dg m).getD k 0)) + ((dg n).getD k 0)) % 1000000000]) fw21
    have zw21 := cw21.size
    refine sa rfl rfl rfl rfl ?_
    refine wl_nil (q_n (k19 _ _ ?_))
    refine sx_sub (Sub.cons (t := 0) rfl (.cons (t := 1) rfl (.cons (t := 5) rfl (.cons (t := 6) rfl (.cons (t := 7) rfl (.nil)))))) ?_
    refine sx_region ?_
    refine sm rfl rfl rfl rfl ?_
    refine sx_pure rfl rfl rfl (px_quo rfl rfl (by omega) (by omega) (by omega)) ?_
    refine sa rfl rfl rfl rfl ?_
    refine wl_nil ?_
    refine q_bn (q_n (k14 _ _ ?_))
    refine sx_region ?_
    refine sm rfl rfl rfl rfl ?_
    refine sx_pure rfl rfl rfl (px_add rfl rfl (by omega)) ?_
    refine sa rfl rfl rfl rfl ?_
    refine wl_nil ?_
    have q23 := Chg.step (l := w.heap.size) (h := ws3.heap.size) cwl7 cs20 (by omega)
    have q24 := Chg.step (l := w.heap.size) (h := ws3.heap.size) q23 cw21 (by omega)
    have hs : (((((c : Nat) : Int) + ((dg m).getD k 0)) + ((dg n).getD k 0)) : Int) = ((c : Nat) : Int) + (((dg m).getD k 0).toNat : Nat) + (((dg n).getD k 0).toNat : Nat) := by omega
    have hv2 : vl (os ++ [(((((c : Nat) : Int) + ((dg m).getD k 0)) + ((dg n).getD k 0))) % 1000000000]) + Bs ^ (k + 1) * ((((((c : Nat) : Int) + ((dg m).getD k 0)) + ((dg n).getD k 0))) / 1000000000 : Int).toNat = vl ((dg m).take (k + 1)) + vl ((dg n).take (k + 1)) := by
     rw [vl_concat, hos, vl_take_succ', vl_take_succ', Nat.pow_succ]
     exact add_step hs hv
    have hX := mod_bd (s := ((((c : Nat) : Int) + ((dg m).getD k 0)) + ((dg n).getD k 0))) (by omega)
    exact fun a ha => ⟨_, by omega, (k + 1), a21, (os ++ ([((((c : Nat) : Int) + ((dg m).getD k 0)) + ((dg n).getD k 0)) % 1000000000])), ((((((c : Nat) : Int) + ((dg m).getD k 0)) + ((dg n).getD k 0))) / 1000000000 : Int).toNat, ha.sub (Sub.cons (t := 0) rfl (.cons (t := 1) rfl (.cons (t := 5) rfl (.cons (t := 6) (look_int (t := 6) rfl (by first | omega | simp)) (.cons (t := 7) (look_int (t := 7) rfl (by first | omega | simp)) (.nil)))))), q24, (nw21.mono (by omega) (by omega)), rfl, by simp [hos], hlm.append (Lm.single hX.1 hX.2), by omega, by omega, hv2⟩
   ·
    have gn := getD_ge (zs := dg n) (k := k) (by omega)
    refine sx_skip ?_
    refine q_n (k17 _ _ ?_)
    refine sx_seq fun K25 k25 => sx_region ?_
    refine sm rfl rfl rfl rfl ?_
    refine sm rfl rfl rfl rfl ?_
    refine sx_pure rfl rfl rfl (px_rem rfl rfl (by omega) (by omega)) ?_
    refine sx_lit1 rfl xelt22 rfl rfl (fun s26 ws26 ss26 fs26 cs26 => ?_)
    have ns26 := Own.norm (f := (Value.int .i64)) (zs := [(((c : Nat) : Int) + ((dg m).getD k 0)) % 1000000000]) fs26
    have zws26 := cs26.size
    have f28 := hs_s.ext cs26
    refine sx_append rfl xelt22 rfl rfl f28 ns26.sv one_int (by omega) (by simp only [List.length_cons, List.length_nil]; omega) (by unfold maxLen; simp only [List.length_cons, List.length_nil]; omega) (fun a27 w27 fw27 cw27 => ?_)
    have nw27 := Own.app (f := (Value.int .i64)) (a := os) (b := [(((c : Nat) : Int) + ((dg m).getD k 0)) % 1000000000]) fw27
    have zw27 := cw27.size
    refine sa rfl rfl rfl rfl ?_
    refine wl_nil (q_n (k25 _ _ ?_))
    refine sx_region ?_
    refine sm rfl rfl rfl rfl ?_
    refine sx_pure rfl rfl rfl (px_quo rfl rfl (by omega) (by omega) (by omega)) ?_
    refine sa rfl rfl rfl rfl ?_
    refine wl_nil ?_
    refine q_bn (q_n (k14 _ _ ?_))
    refine sx_region ?_
    refine sm rfl rfl rfl rfl ?_
    refine sx_pure rfl rfl rfl (px_add rfl rfl (by omega)) ?_
    refine sa rfl rfl rfl rfl ?_
    refine wl_nil ?_
    have q29 := Chg.step (l := w.heap.size) (h := ws3.heap.size) cwl7 cs26 (by omega)
    have q30 := Chg.step (l := w.heap.size) (h := ws3.heap.size) q29 cw27 (by omega)
    have hs : ((((c : Nat) : Int) + ((dg m).getD k 0)) : Int) = ((c : Nat) : Int) + (((dg m).getD k 0).toNat : Nat) + (((dg n).getD k 0).toNat : Nat) := by omega
    have hv2 : vl (os ++ [((((c : Nat) : Int) + ((dg m).getD k 0))) % 1000000000]) + Bs ^ (k + 1) * (((((c : Nat) : Int) + ((dg m).getD k 0))) / 1000000000 : Int).toNat = vl ((dg m).take (k + 1)) + vl ((dg n).take (k + 1)) := by
     rw [vl_concat, hos, vl_take_succ', vl_take_succ', Nat.pow_succ]
     exact add_step hs hv
    have hX := mod_bd (s := (((c : Nat) : Int) + ((dg m).getD k 0))) (by omega)
    exact fun a ha => ⟨_, by omega, (k + 1), a27, (os ++ ([(((c : Nat) : Int) + ((dg m).getD k 0)) % 1000000000])), (((((c : Nat) : Int) + ((dg m).getD k 0))) / 1000000000 : Int).toNat, ha.sub (Sub.cons (t := 0) rfl (.cons (t := 1) rfl (.cons (t := 5) rfl (.cons (t := 6) (look_int (t := 6) rfl (by first | omega | simp)) (.cons (t := 7) (look_int (t := 7) rfl (by first | omega | simp)) (.nil)))))), q30, (nw27.mono (by omega) (by omega)), rfl, by simp [hos], hlm.append (Lm.single hX.1 hX.2), by omega, by omega, hv2⟩
  ·
   have gm := getD_ge (zs := dg m) (k := k) (by omega)
   refine sx_skip ?_
   refine q_n (k15 _ _ ?_)
   refine sx_seq fun K31 k31 => ?_
   refine sx_seq fun K32 k32 => sx_region ?_
   refine sm rfl rfl rfl rfl ?_
   refine sm rfl rfl rfl rfl ?_
   refine sx_pure rfl rfl rfl (px_len rfl Try.underlying22 f13) ?_
   refine sx_pure rfl rfl rfl (px_lt rfl rfl) ?_
   refine wl_nil (q_n (k32 _ _ ?_))
   refine sx_condP rfl (fun h109 => ?_) (fun h109 => ?_)
   ·
    refine sx_region ?_
    refine sm rfl rfl rfl rfl ?_
    refine sm rfl rfl rfl rfl ?_
    refine sm rfl rfl rfl rfl ?_
    refine sx_pure rfl rfl rfl (px_index1 (j := k) rfl rfl (by omega) Try.underlying22 Try.sizeOf3 f13 (by omega)) ?_
    refine sx_pure rfl rfl rfl (px_load rfl (f13.load1 (at_int (by omega)) Try.isAgg3)) ?_
    refine sx_pure rfl rfl rfl (px_add rfl rfl (by omega)) ?_
    refine sa rfl rfl rfl rfl ?_
    refine wl_nil (q_n (k31 _ _ ?_))
    refine sx_sub (Sub.cons (t := 0) rfl (.cons (t := 1) rfl (.cons (t := 5) rfl (.cons (t := 6) rfl (.cons (t := 7) rfl (.nil)))))) ?_
    refine sx_seq fun K33 k33 => sx_region ?_
    refine sm rfl rfl rfl rfl ?_
    refine sm rfl rfl rfl rfl ?_
    refine sx_pure rfl rfl rfl (px_rem rfl rfl (by omega) (by omega)) ?_
    refine sx_lit1 rfl xelt22 rfl rfl (fun s34 ws34 ss34 fs34 cs34 => ?_)
    have ns34 := Own.norm (f := (Value.int .i64)) (zs := [(((c : Nat) : Int) + ((dg n).getD k 0)) % 1000000000]) fs34
    have zws34 := cs34.size
    have f36 := hs_s.ext cs34
    refine sx_append rfl xelt22 rfl rfl f36 ns34.sv one_int (by omega) (by simp only [List.length_cons, List.length_nil]; omega) (by unfold maxLen; simp only [List.length_cons, List.length_nil]; omega) (fun a35 w35 fw35 cw35 => ?_)
    have nw35 := Own.app (f := (Value.int .i64)) (a := os) (b := [(((c : Nat) : Int) + ((dg n).getD k 0)) % 1000000000]) fw35
    have zw35 := cw35.size
    refine sa rfl rfl rfl rfl ?_
    refine wl_nil (q_n (k33 _ _ ?_))
    refine sx_region ?_
    refine sm rfl rfl rfl rfl ?_
    refine sx_pure rfl rfl rfl (px_quo rfl rfl (by omega) (by omega) (by omega)) ?_
    refine sa rfl rfl rfl rfl ?_
    refine wl_nil ?_
    refine q_bn (q_n (k14 _ _ ?_))
    refine sx_region ?_
    refine sm rfl rfl rfl rfl ?_
    refine sx_pure rfl rfl rfl (px_add rfl rfl (by omega)) ?_
    refine sa rfl rfl rfl rfl ?_
    refine wl_nil ?_
    have q37 := Chg.step (l := w.heap.size) (h := ws3.heap.size) cwl7 cs34 (by omega)
    have q38 := Chg.step (l := w.heap.size) (h := ws3.heap.size) q37 cw35 (by omega)
    have hs : ((((c : Nat) : Int) + ((dg n).getD k 0)) : Int) = ((c : Nat) : Int) + (((dg m).getD k 0).toNat : Nat) + (((dg n).getD k 0).toNat : Nat) := by omega
    have hv2 : vl (os ++ [((((c : Nat) : Int) + ((dg n).getD k 0))) % 1000000000]) + Bs ^ (k + 1) * (((((c : Nat) : Int) + ((dg n).getD k 0))) / 1000000000 : Int).toNat = vl ((dg m).take (k + 1)) + vl ((dg n).take (k + 1)) := by
     rw [vl_concat, hos, vl_take_succ', vl_take_succ', Nat.pow_succ]
     exact add_step hs hv
    have hX := mod_bd (s := (((c : Nat) : Int) + ((dg n).getD k 0))) (by omega)
    exact fun a ha => ⟨_, by omega, (k + 1), a35, (os ++ ([(((c : Nat) : Int) + ((dg n).getD k 0)) % 1000000000])), (((((c : Nat) : Int) + ((dg n).getD k 0))) / 1000000000 : Int).toNat, ha.sub (Sub.cons (t := 0) rfl (.cons (t := 1) rfl (.cons (t := 5) rfl (.cons (t := 6) (look_int (t := 6) rfl (by first | omega | simp)) (.cons (t := 7) (look_int (t := 7) rfl (by first | omega | simp)) (.nil)))))), q38, (nw35.mono (by omega) (by omega)), rfl, by simp [hos], hlm.append (Lm.single hX.1 hX.2), by omega, by omega, hv2⟩
   ·
    have gn := getD_ge (zs := dg n) (k := k) (by omega)
    refine sx_skip ?_
    refine q_n (k31 _ _ ?_)
    refine sx_seq fun K39 k39 => sx_region ?_
    refine sm rfl rfl rfl rfl ?_
    refine sm rfl rfl rfl rfl ?_
    refine sx_pure rfl rfl rfl (px_rem rfl rfl (by omega) (by omega)) ?_
    refine sx_lit1 rfl xelt22 rfl rfl (fun s40 ws40 ss40 fs40 cs40 => ?_)
    have ns40 := Own.norm (f := (Value.int .i64)) (zs := [((c : Nat) : Int) % 1000000000]) fs40
    have zws40 := cs40.size
    have f42 := hs_s.ext cs40
    refine sx_append rfl xelt22 rfl rfl f42 ns40.sv one_int (by omega) (by simp only [List.length_cons, List.length_nil]; omega) (by unfold maxLen; simp only [List.length_cons, List.length_nil]; omega) (fun a41 w41 fw41 cw41 => ?_)
    have nw41 := Own.app (f := (Value.int .i64)) (a := os) (b := [((c : Nat) : Int) % 1000000000]) fw41
    have zw41 := cw41.size
    refine sa rfl rfl rfl rfl ?_
    refine wl_nil (q_n (k39 _ _ ?_))
    refine sx_sub (Sub.cons (t := 0) rfl (.cons (t := 1) rfl (.cons (t := 5) rfl (.cons (t := 6) rfl (.cons (t := 7) rfl (.nil)))))) ?_
    refine sx_region ?_
    refine sm rfl rfl rfl rfl ?_
    refine sx_pure rfl rfl rfl (px_quo rfl rfl (by omega) (by omega) (by omega)) ?_
    refine sa rfl rfl rfl rfl ?_
    refine wl_nil ?_
    refine q_bn (q_n (k14 _ _ ?_))
    refine sx_region ?_
    refine sm rfl rfl rfl rfl ?_
    refine sx_pure rfl rfl rfl (px_add rfl rfl (by omega)) ?_
    refine sa rfl rfl rfl rfl ?_
    refine wl_nil ?_
    have q43 := Chg.step (l := w.heap.size) (h := ws3.heap.size) cwl7 cs40 (by omega)
    have q44 := Chg.step (l := w.heap.size) (h := ws3.heap.size) q43 cw41 (by omega)
    have hs : (((c : Nat) : Int) : Int) = ((c : Nat) : Int) + (((dg m).getD k 0).toNat : Nat) + (((dg n).getD k 0).toNat : Nat) := by omega
    have hv2 : vl (os ++ [(((c : Nat) : Int)) % 1000000000]) + Bs ^ (k + 1) * ((((c : Nat) : Int)) / 1000000000 : Int).toNat = vl ((dg m).take (k + 1)) + vl ((dg n).take (k + 1)) := by
     rw [vl_concat, hos, vl_take_succ', vl_take_succ', Nat.pow_succ]
     exact add_step hs hv
    have hX := mod_bd (s := ((c : Nat) : Int)) (by omega)
    exact fun a ha => ⟨_, by omega, (k + 1), a41, (os ++ ([((c : Nat) : Int) % 1000000000])), ((((c : Nat) : Int)) / 1000000000 : Int).toNat, ha.sub (Sub.cons (t := 0) rfl (.cons (t := 1) rfl (.cons (t := 5) rfl (.cons (t := 6) (look_int (t := 6) rfl (by first | omega | simp)) (.cons (t := 7) (look_int (t := 7) rfl (by first | omega | simp)) (.nil)))))), q44, (nw41.mono (by omega) (by omega)), rfl, by simp [hos], hlm.append (Lm.single hX.1 hX.2), by omega, by omega, hv2⟩
 ·
  refine sx_exit ?_
  refine q_e (q_e (q_bx (q_n (k5 _ _ ?_))))
  refine sx_seq fun K45 k45 => ?_
  have ek : k = max (dg m).length (dg n).length := by omega
  have hz : Lm (os ++ [((c : Nat) : Int)]) := hlm.append (Lm.single (by omega) (by omega))
  have hvv : vl (os ++ [((c : Nat) : Int)]) = m + n := by rw [vl_concat, hos, Int.toNat_natCast, hv, vl_take_ge (by omega), vl_take_ge (by omega), vl_dg, vl_dg]
  refine sx_region ?_
  refine sm rfl rfl rfl rfl ?_
  refine sm rfl rfl rfl rfl ?_
  refine sx_lit1 rfl xelt22 rfl rfl (fun s46 ws46 ss46 fs46 cs46 => ?_)
  have ns46 := Own.norm (f := (Value.int .i64)) (zs := [((c : Nat) : Int)]) fs46
  have zws46 := cs46.size
  have f48 := hs_s.ext cs46
  refine sx_append rfl xelt22 rfl rfl f48 ns46.sv one_int (by omega) (by simp only [List.length_cons, List.length_nil]; omega) (by unfold maxLen; simp only [List.length_cons, List.length_nil]; omega) (fun a47 w47 fw47 cw47 => ?_)
  have nw47 := Own.app (f := (Value.int .i64)) (a := os) (b := [((c : Nat) : Int)]) fw47
  have zw47 := cw47.size
  refine sx_call rfl rfl Try.call83 (c_trim nw47 (by assumption) (by first | omega | (simp only [List.length_append, List.length_set, List.length_replicate, List.length_cons, List.length_nil] at *; omega))) (fun v49 w49 p49 => ?_)
  obtain ⟨s49, rfl, os_49, c49⟩ := p49
  have zw49 := c49.size
  refine sa rfl rfl rfl rfl ?_
  refine wl_nil (q_n (k45 _ _ ?_))
  refine sx_sub (Sub.cons (t := 4) rfl (.nil)) ?_
  refine sx_retc ?_
  refine sx_ret1 Try.results97 rfl ?_
  have hr := os_49
  rw [hvv] at hr
  have q50 := Chg.step (l := 0) (h := 0) (Chg.zero (l := 0) (h := 0) cs3) cwl7 (by omega)
  have q51 := Chg.step (l := 0) (h := 0) q50 cs46 (by omega)
  have q52 := Chg.step (l := 0) (h := 0) q51 cw47 (by omega)
  have q53 := Chg.step (l := 0) (h := 0) q52 c49 (by omega)
  exact ⟨_, rfl, hr.mono (by omega) (by omega), q53⟩

theorem c_natAdd1 {w : World} {va : Value} {lva uva : Nat} {m : Nat} {vb : Value} {lvb uvb : Nat} {ys : List Int} (hva : Sl w lva uva va (dg m)) (hvb : Sl w lvb uvb vb (ys)) (hbm : (dg m).length ≤ 1000) (hy : ys = [1]) :
  Ret Try.prog 97 [va, vb] w fun v w' => ∃ s, v = s ∧ OwnI w' w.heap.size w'.heap.size s intT (dg (m + 1)) ∧ Chg 0 0 w w' := by
 rw [hy, ← dg_1] at hvb; exact c_natAdd hva hvb hbm (by rw [dg_1]; simp)

theorem c_iNatEven {w : World} {va : Value} {lva uva : Nat} {m : Nat} (hva : Sl w lva uva va (dg m)) (hbm : (dg m).length ≤ 50) :
  Ret Try.prog 98 [va] w fun v w' => v = .bool (decide (¬ m % 2 = 1)) ∧ Chg 0 0 w w' := by
 have hva0 := hva.fit
 refine sx_enter Try.func98 rfl Try.ntmps98 (Nat.le_of_ble_eq_true rfl) ?_
 refine sx_seq fun K1 k1 => sx_region ?_
 refine sa rfl rfl rfl rfl ?_
 refine wl_nil (q_n (k1 _ _ ?_))
 refine sx_seq fun K2 k2 => sx_region ?_
 refine sm rfl rfl rfl rfl ?_
 refine sx_call rfl rfl Try.call94 (c_iNatOk hva0 (by omega)) (fun v3 w3 p3 => ?_)
 obtain ⟨rfl, c3⟩ := p3
 have zw3 := c3.size
 refine sm rfl rfl rfl rfl ?_
 have h151 : NOk (dg m) := NOk_dg (by omega)
 refine sx_tmpPT (t := 5) rfl h151 ?_
 refine sx_guardT rfl rfl rfl ?_
 refine sm rfl rfl rfl rfl ?_
 refine sx_guardT rfl rfl rfl ?_
 have f4 := hva0.ext c3
 refine sx_pure rfl rfl rfl (px_len rfl Try.underlying22 f4) ?_
 refine sx_guardT rfl rfl rfl ?_
 refine sx_pure rfl rfl rfl (px_eq rfl rfl) ?_
 refine sx_guardT rfl rfl rfl ?_
 refine sm rfl rfl rfl rfl ?_
 refine sx_tmpP (t := 9) rfl (fun h151x1 => ?_) (fun h151x1 => ?_)
 ·
  refine sx_guardF rfl rfl rfl rfl rfl rfl ?_
  refine sx_guardF rfl rfl rfl rfl rfl rfl ?_
  refine sx_guardF rfl rfl rfl rfl rfl rfl ?_
  refine sx_guardF rfl rfl rfl rfl rfl rfl ?_
  refine sx_guardF rfl rfl rfl rfl rfl rfl ?_
  refine sx_guardT rfl rfl rfl ?_
  refine sx_pure rfl rfl rfl (px_pick rfl rfl) ?_
  refine sx_pure rfl rfl rfl (px_pick rfl rfl) ?_
  refine sa rfl rfl rfl rfl ?_
  refine wl_nil (q_n (k2 _ _ ?_))
  refine sx_sub (Sub.cons (t := 2) rfl (.nil)) ?_
  refine sx_retc ?_
  refine sx_ret1 Try.results98 rfl ?_
  exact ⟨(by have hk := odd_dg (q := m); first | exact bTrue (hk.1 (.inl (by omega))) | exact bIff ⟨fun h => hk.1 (.inr h), fun h => (hk.2 h).resolve_left (by omega)⟩), c3⟩
 ·
  refine sx_guardT rfl rfl rfl ?_
  refine sm rfl rfl rfl rfl ?_
  refine sx_guardT rfl rfl rfl ?_
  refine sx_pure rfl rfl rfl (px_index1 (j := 0) rfl rfl (by omega) Try.underlying22 Try.sizeOf3 f4 (by omega)) ?_
  refine sx_guardT rfl rfl rfl ?_
  refine sx_pure rfl rfl rfl (px_load rfl (f4.load1 (at_int (by omega)) Try.isAgg3)) ?_
  refine sx_guardT rfl rfl rfl ?_
  refine sx_pure rfl rfl rfl (px_rem rfl rfl (by have := (Lm_dg m).getD 0; omega) (by omega)) ?_
  refine sx_guardT rfl rfl rfl ?_
  refine sx_pure rfl rfl rfl (px_eq rfl rfl) ?_
  refine sx_guardT rfl rfl rfl ?_
  refine sx_pure rfl rfl rfl (px_pick rfl rfl) ?_
  refine sx_pure rfl rfl rfl (px_pick rfl rfl) ?_
  refine sa rfl rfl rfl rfl ?_
  refine wl_nil (q_n (k2 _ _ ?_))
  refine sx_sub (Sub.cons (t := 2) rfl (.nil)) ?_
  refine sx_retc ?_
  refine sx_ret1 Try.results98 rfl ?_
  exact ⟨(by have hk := odd_dg (q := m); first | exact bTrue (hk.1 (.inl (by omega))) | exact bIff ⟨fun h => hk.1 (.inr h), fun h => (hk.2 h).resolve_left (by omega)⟩), c3⟩

theorem c_roundQuotient {w : World} {va : Value} {lva uva : Nat} {x : Int} {vb : Value} {lvb uvb : Nat} {d : Nat} {m : Int} (hva : Sl w lva uva va (dg x.natAbs)) (hvb : Sl w lvb uvb vb (dg d)) (hbx : (dg x.natAbs).length ≤ 49) (hbd : (dg d).length ≤ 390) (hd0 : 0 < d) (hm : 0 ≤ m ∧ m ≤ 6) :
  Ret Try.prog 58 [.agg #[.bool (ng x), va], vb, .int .i64 m] w fun v w' => ∃ s, v = .agg #[.bool (ng (rqI x d m)), s] ∧ OwnI w' w.heap.size w'.heap.size s intT (dg (rqI x d m).natAbs) ∧ Chg 0 0 w w' := by
 have hva0 := hva.fit
 have hvb0 := hvb.fit
 have lq := len_div x.natAbs d
 have lr := len_mod (m := x.natAbs) hd0
 have lrr := len_add (x.natAbs % d) (x.natAbs % d)
 refine sx_enter Try.func58 rfl Try.ntmps58 (Nat.le_of_ble_eq_true rfl) ?_
 refine sx_seq fun K1 k1 => sx_region ?_
 refine sx_box [.bool (ng x), va] rfl rfl rfl (fun b2 w3 eb2 sb2 fb2 cb2 => ?_)
 have zw3 := cb2.size
 refine sx_alloc [.bool false, (.slice none 0 0)] rfl Try.zeroValue28 rfl (fun b4 w5 eb4 sb4 fb4 cb4 => ?_)
 have zw5 := cb4.size
 refine wl_nil (q_n (k1 _ _ ?_))
 refine sx_seq fun K6 k6 => sx_region ?_
 refine sx_pure rfl rfl rfl (px_field rfl xfld28x1) ?_
 have f7 := fb2.ext cb4
 refine sx_pure rfl rfl rfl (px_load rfl (f7.load1 rfl Try.isAgg22)) ?_
 refine sm rfl rfl rfl rfl ?_
 have f8 := hva0.ext cb2
 have f9 := f8.ext cb4
 have f10 := hvb0.ext cb2
 have f11 := f10.ext cb4
 refine sx_call rfl rfl Try.call43 (c_natDiv f9 f11 (by omega) (by omega) (hd0)) (fun v12 w12 p12 => ?_)
 obtain ⟨s12, t12, rfl, os_12, ot_12, c12⟩ := p12
 have zw12 := c12.size
 refine sm rfl rfl rfl rfl ?_
 refine sx_pure rfl rfl rfl (px_extract (vs := [s12, t12]) rfl rfl) ?_
 refine sx_pure rfl rfl rfl (px_extract (vs := [s12, t12]) rfl rfl) ?_
 refine sa rfl rfl rfl rfl ?_
 refine sa rfl rfl rfl rfl ?_
 refine wl_nil (q_n (k6 _ _ ?_))
 refine sx_seq fun K13 k13 => ?_
 refine sx_seq fun K14 k14 => ?_
 by_cases ph57 : 0 < (dg (x.natAbs % d)).length
 ·
  have f15 := f7.ext c12
  have f16 := fb4.ext c12
  have f17 := f9.ext c12
  have f18 := f11.ext c12
  refine dx_region (fun w' => Chg 0 0 w12 w') (by kernel_rfl) (Chg.zero (Chg.drew _)) ?_
  have d19 := Chg.drew w12
  have s19 : Chg 0 0 w12 (World.drew w12) := Chg.zero (Chg.drew _)
  have y19 : (World.drew w12).heap.size = w12.heap.size := rfl
  generalize World.drew w12 = w19 at *
  have zw19 := d19.size
  refine dx_take 0 rfl rfl rfl rfl (by kernel_rfl) (by kernel_rfl) (by kernel_rfl) s19 (fun _ hS => px_move rfl) ?_
  refine dx_take 1 rfl rfl rfl rfl (by kernel_rfl) (by kernel_rfl) (by kernel_rfl) s19 (fun _ hS => px_len rfl Try.underlying22 ((ot_12.sv).chg hS (by omega))) ?_
  refine dx_take 2 rfl rfl rfl rfl (by kernel_rfl) (by kernel_rfl) (by kernel_rfl) s19 (fun _ hS => px_gt rfl rfl) ?_
  refine dx_take 3 rfl rfl rfl rfl (by kernel_rfl) (by kernel_rfl) (by kernel_rfl) s19 (fun _ hS => px_move rfl) ?_
  have h57 : (0 : Int) < ↑((dg (x.natAbs % d)).length) := by omega
  refine dx_tmpPT (t := 19) rfl h57 ?_
  refine dx_takeG 5 rfl rfl rfl rfl rfl rfl (by kernel_rfl) (by kernel_rfl) (by kernel_rfl) s19 (fun _ hS => px_move rfl) ?_
  refine dx_takeG 8 rfl rfl rfl rfl rfl rfl (by kernel_rfl) (by kernel_rfl) (by kernel_rfl) s19 (fun _ hS => px_field rfl xfld28x0) ?_
  refine dx_takeG 9 rfl rfl rfl rfl rfl rfl (by kernel_rfl) (by kernel_rfl) (by kernel_rfl) s19 (fun _ hS => px_load rfl ((f15.chg hS (by omega)).load1 rfl Try.isAgg4)) ?_
  refine dx_takeG 10 rfl rfl rfl rfl rfl rfl (by kernel_rfl) (by kernel_rfl) (by kernel_rfl) s19 (fun _ hS => px_move rfl) ?_
  refine dx_takeG 11 rfl rfl rfl rfl rfl rfl (by kernel_rfl) (by kernel_rfl) (by kernel_rfl) s19 (fun _ hS => px_move rfl) ?_
  refine dx_takeG 13 rfl rfl rfl rfl rfl rfl (by kernel_rfl) (by kernel_rfl) (by kernel_rfl) s19 (fun _ hS => px_move rfl) ?_
  refine dx_takeG 15 rfl rfl rfl rfl rfl rfl (by kernel_rfl) (by kernel_rfl) (by kernel_rfl) s19 (fun _ hS => px_move rfl) ?_
  refine dx_eff 4 rfl (by kernel_rfl) ?_
  refine sx_guardT rfl rfl rfl ?_
  refine sx_call rfl rfl Try.call96 (c_roundModes) (fun v20 w20 p20 => ?_)
  obtain ⟨rfl, c20⟩ := p20
  have zw20 := c20.size
  have s21 : Chg 0 0 w12 w20 := (d19.t c20)
  refine wl_nil ?_
  refine dx_next s21 ?_
  refine dx_takeG 6 rfl rfl rfl rfl rfl rfl (by kernel_rfl) (by kernel_rfl) (by kernel_rfl) s21 (fun _ hS => px_indexRm rfl rfl (by omega)) ?_
  refine dx_takeG 7 rfl rfl rfl rfl rfl rfl (by kernel_rfl) (by kernel_rfl) (by kernel_rfl) s21 (fun _ hS => px_fieldv rfl (xfv92x1 _)) ?_
  refine dx_eff 12 rfl (by kernel_rfl) ?_
  refine sx_guardT rfl rfl rfl ?_
  have f22 := ot_12.ext d19
  have f23 := f22.ext c20
  refine sx_call rfl rfl Try.call97 (c_natAdd f23.sv f23.sv (by omega) (by omega)) (fun v24 w24 p24 => ?_)
  obtain ⟨s24, rfl, os_24, c24⟩ := p24
  have zw24 := c24.size
  have s25 : Chg 0 0 w12 w24 := ((d19.t c20).t c24)
  refine wl_nil ?_
  refine dx_next s25 ?_
  refine dx_eff 14 rfl (by kernel_rfl) ?_
  refine sx_guardT rfl rfl rfl ?_
  have f26 := f18.ext d19
  have f27 := f26.ext c20
  have f28 := f27.ext c24
  refine sx_call rfl rfl Try.call78 (c_natCmp os_24.sv f28 (by omega)) (fun v29 w29 p29 => ?_)
  obtain ⟨rfl, c29⟩ := p29
  have zw29 := c29.size
  have s30 : Chg 0 0 w12 w29 := (((d19.t c20).t c24).t c29)
  refine wl_nil ?_
  refine dx_next s30 ?_
  refine dx_eff 16 rfl (by kernel_rfl) ?_
  refine sx_guardT rfl rfl rfl ?_
  have f31 := os_12.ext d19
  have f32 := f31.ext c20
  have f33 := f32.ext c24
  have f34 := f33.ext c29
  refine sx_call rfl rfl Try.call98 (c_iNatEven f34.sv (by omega)) (fun v35 w35 p35 => ?_)
  obtain ⟨rfl, c35⟩ := p35
  have zw35 := c35.size
  have s36 : Chg 0 0 w12 w35 := ((((d19.t c20).t c24).t c29).t c35)
  refine wl_nil ?_
  refine dx_next s36 ?_
  refine dx_takeG 17 rfl rfl rfl rfl rfl rfl (by kernel_rfl) (by kernel_rfl) (by kernel_rfl) s36 (fun _ hS => px_notP rfl) ?_
  refine dx_eff 18 rfl (by kernel_rfl) ?_
  refine sx_guardT rfl rfl rfl ?_
  refine sx_callV rfl rfl rfl (rm_call (m := m) (by omega)) (c_away (m := m) (by omega)) (fun v37 w37 p37 => ?_)
  obtain ⟨rfl, c37⟩ := p37
  have zw37 := c37.size
  have s38 : Chg 0 0 w12 w37 := (((((d19.t c20).t c24).t c29).t c35).t c37)
  refine wl_nil ?_
  refine dx_next s38 ?_
  refine dx_take 19 rfl rfl rfl rfl (by kernel_rfl) (by kernel_rfl) (by kernel_rfl) s38 (fun _ hS => px_pick rfl rfl) ?_
  refine dx_done (by kernel_rfl) ?_
  refine q_n (k14 _ _ ?_)
  refine sx_sub (Sub.cons (t := 3) rfl (.cons (t := 6) rfl (.cons (t := 7) rfl (.cons (t := 35) rfl (.nil))))) ?_
  refine sx_condB rfl (fun h57x1 => ?_) (fun h57x1 => ?_)
  ·
   try rw [cmpL_dg] at h57x1
   try simp only [Decidable.not_not] at h57x1
   have e := rq_up (x := x) (d := d) (m := m) (len_pos.1 (by omega)) h57x1
   refine sx_region ?_
   refine sm rfl rfl rfl rfl ?_
   refine sx_lit1 rfl xelt22 rfl rfl (fun s39 ws39 ss39 fs39 cs39 => ?_)
   have ns39 := Own.norm (f := (Value.int .i64)) (zs := [1]) fs39
   have zws39 := cs39.size
   have f40 := f34.ext c35
   have f41 := f40.ext c37
   have f42 := f41.ext cs39
   refine sx_call rfl rfl Try.call97 (c_natAdd1 f42.sv ns39.sv (by omega) (rfl)) (fun v43 w43 p43 => ?_)
   obtain ⟨s43, rfl, os_43, c43⟩ := p43
   have zw43 := c43.size
   refine sa rfl rfl rfl rfl ?_
   refine wl_nil (q_n (k13 _ _ ?_))
   refine sx_seq fun K44 k44 => sx_region ?_
   refine sx_pure rfl rfl rfl (px_field rfl xfld28x0) ?_
   have f45 := f15.ext d19
   have f46 := f45.ext c20
   have f47 := f46.ext c24
   have f48 := f47.ext c29
   have f49 := f48.ext c35
   have f50 := f49.ext c37
   have f51 := f50.ext cs39
   have f52 := f51.ext c43
   refine sx_pure rfl rfl rfl (px_load rfl (f52.load1 rfl Try.isAgg4)) ?_
   refine sm rfl rfl rfl rfl ?_
   refine sx_call rfl rfl Try.call45 (c_signed os_43.sv (by have h9 := rq_len (x := x) (d := d) (m := m) hbx; rw [e] at h9; omega)) (fun v53 w53 p53 => ?_)
   obtain ⟨rfl, c53⟩ := p53
   have zw53 := c53.size
   have f55 := f16.ext d19
   have f56 := f55.ext c20
   have f57 := f56.ext c24
   have f58 := f57.ext c29
   have f59 := f58.ext c35
   have f60 := f59.ext c37
   have f61 := f60.ext cs39
   have f62 := f61.ext c43
   have f63 := f62.ext c53
   have f64 := os_43.ext c53
   refine sx_store (vs := [.bool (nz (ng x) (dg ((x.natAbs / d) + 1))), v43]) rfl rfl f63 rfl Try.sizeOf28 (Nat.le_of_ble_eq_true rfl) (one_cons rfl (one_cons f64.one one_nil)) (fun w54 sw54 fw54 cw54 => ?_)
   have zw54 := cw54.size
   have gw54 : Blk w54 b4 [.bool (nz (ng x) (dg ((x.natAbs / d) + 1))), v43] 28 := fw54
   refine wl_nil (q_n (k44 _ _ ?_))
   refine sx_retc ?_
   refine sx_ret1 Try.results58 ⟨_, rfl, gw54.loadA (vs := [.bool (nz (ng x) (dg ((x.natAbs / d) + 1))), v43]) (look_lit rfl) Try.isAgg28 Try.sizeOf28⟩ ?_
   have hh := rqI_sg x d m
   rw [e] at hh
   rw [← hh.1, ← hh.2]
   have q65 := Chg.step (l := 0) (h := 0) (Chg.zero (l := 0) (h := 0) (((((((((((cb2.t cb4).t c12).t d19).t c20).t c24).t c29).t c35).t c37).t cs39).t c43).t c53)) cw54 (by omega)
   have f66 := f64.chg cw54 (by omega)
   exact ⟨_, rfl, (Own.mono f66 (by omega) (by omega)), q65⟩
  ·
   try rw [cmpL_dg] at h57x1
   try simp only [Decidable.not_not] at h57x1
   have e := rq_dn (x := x) (d := d) (m := m) (fun hh => by have h9 := hh.2; rw [h57x1] at h9; cases h9)
   refine sx_skip ?_
   refine q_n (k13 _ _ ?_)
   refine sx_seq fun K67 k67 => sx_region ?_
   refine sx_pure rfl rfl rfl (px_field rfl xfld28x0) ?_
   have f68 := f15.ext d19
   have f69 := f68.ext c20
   have f70 := f69.ext c24
   have f71 := f70.ext c29
   have f72 := f71.ext c35
   have f73 := f72.ext c37
   refine sx_pure rfl rfl rfl (px_load rfl (f73.load1 rfl Try.isAgg4)) ?_
   refine sm rfl rfl rfl rfl ?_
   have f74 := f34.ext c35
   have f75 := f74.ext c37
   refine sx_call rfl rfl Try.call45 (c_signed f75.sv (by have h9 := rq_len (x := x) (d := d) (m := m) hbx; rw [e] at h9; omega)) (fun v76 w76 p76 => ?_)
   obtain ⟨rfl, c76⟩ := p76
   have zw76 := c76.size
   have f78 := f16.ext d19
   have f79 := f78.ext c20
   have f80 := f79.ext c24
   have f81 := f80.ext c29
   have f82 := f81.ext c35
   have f83 := f82.ext c37
   have f84 := f83.ext c76
   have f85 := f75.ext c76
   refine sx_store (vs := [.bool (nz (ng x) (dg (x.natAbs / d))), s12]) rfl rfl f84 rfl Try.sizeOf28 (Nat.le_of_ble_eq_true rfl) (one_cons rfl (one_cons f85.one one_nil)) (fun w77 sw77 fw77 cw77 => ?_)
   have zw77 := cw77.size
   have gw77 : Blk w77 b4 [.bool (nz (ng x) (dg (x.natAbs / d))), s12] 28 := fw77
   refine wl_nil (q_n (k67 _ _ ?_))
   refine sx_retc ?_
   refine sx_ret1 Try.results58 ⟨_, rfl, gw77.loadA (vs := [.bool (nz (ng x) (dg (x.natAbs / d))), s12]) (look_lit rfl) Try.isAgg28 Try.sizeOf28⟩ ?_
   have hh := rqI_sg x d m
   rw [e] at hh
   rw [← hh.1, ← hh.2]
   have q86 := Chg.step (l := 0) (h := 0) (Chg.zero (l := 0) (h := 0) (((((((((cb2.t cb4).t c12).t d19).t c20).t c24).t c29).t c35).t c37).t c76)) cw77 (by omega)
   have f87 := f85.chg cw77 (by omega)
   exact ⟨_, rfl, (Own.mono f87 (by omega) (by omega)), q86⟩
 ·
  have e := rq_dn (x := x) (d := d) (m := m) (fun hh => by have h9 := len_pos.2 hh.1; omega)
  have f88 := f7.ext c12
  have f89 := fb4.ext c12
  have f90 := f9.ext c12
  have f91 := f11.ext c12
  refine dx_region (fun w' => Chg 0 0 w12 w') (by kernel_rfl) (Chg.zero (Chg.drew _)) ?_
  have d92 := Chg.drew w12
  have s92 : Chg 0 0 w12 (World.drew w12) := Chg.zero (Chg.drew _)
  have y92 : (World.drew w12).heap.size = w12.heap.size := rfl
  generalize World.drew w12 = w92 at *
  have zw92 := d92.size
  refine dx_take 0 rfl rfl rfl rfl (by kernel_rfl) (by kernel_rfl) (by kernel_rfl) s92 (fun _ hS => px_move rfl) ?_
  refine dx_take 1 rfl rfl rfl rfl (by kernel_rfl) (by kernel_rfl) (by kernel_rfl) s92 (fun _ hS => px_len rfl Try.underlying22 ((ot_12.sv).chg hS (by omega))) ?_
  refine dx_take 2 rfl rfl rfl rfl (by kernel_rfl) (by kernel_rfl) (by kernel_rfl) s92 (fun _ hS => px_gt rfl rfl) ?_
  refine dx_take 3 rfl rfl rfl rfl (by kernel_rfl) (by kernel_rfl) (by kernel_rfl) s92 (fun _ hS => px_move rfl) ?_
  have h57 : ¬ ((0 : Int) < ↑((dg (x.natAbs % d)).length)) := by omega
  refine dx_tmpPF (t := 19) rfl h57 ?_
  refine dx_skip 4 rfl rfl rfl rfl rfl rfl rfl (by kernel_rfl) (by kernel_rfl) (by kernel_rfl) s92 ?_
  refine dx_skip 5 rfl rfl rfl rfl rfl rfl rfl (by kernel_rfl) (by kernel_rfl) (by kernel_rfl) s92 ?_
  refine dx_skip 6 rfl rfl rfl rfl rfl rfl rfl (by kernel_rfl) (by kernel_rfl) (by kernel_rfl) s92 ?_
  refine dx_skip 7 rfl rfl rfl rfl rfl rfl rfl (by kernel_rfl) (by kernel_rfl) (by kernel_rfl) s92 ?_
  refine dx_skip 8 rfl rfl rfl rfl rfl rfl rfl (by kernel_rfl) (by kernel_rfl) (by kernel_rfl) s92 ?_
  refine dx_skip 9 rfl rfl rfl rfl rfl rfl rfl (by kernel_rfl) (by kernel_rfl) (by kernel_rfl) s92 ?_
  refine dx_skip 10 rfl rfl rfl rfl rfl rfl rfl (by kernel_rfl) (by kernel_rfl) (by kernel_rfl) s92 ?_
  refine dx_skip 11 rfl rfl rfl rfl rfl rfl rfl (by kernel_rfl) (by kernel_rfl) (by kernel_rfl) s92 ?_
  refine dx_skip 12 rfl rfl rfl rfl rfl rfl rfl (by kernel_rfl) (by kernel_rfl) (by kernel_rfl) s92 ?_
  refine dx_skip 13 rfl rfl rfl rfl rfl rfl rfl (by kernel_rfl) (by kernel_rfl) (by kernel_rfl) s92 ?_
  refine dx_skip 14 rfl rfl rfl rfl rfl rfl rfl (by kernel_rfl) (by kernel_rfl) (by kernel_rfl) s92 ?_
  refine dx_skip 15 rfl rfl rfl rfl rfl rfl rfl (by kernel_rfl) (by kernel_rfl) (by kernel_rfl) s92 ?_
  refine dx_skip 16 rfl rfl rfl rfl rfl rfl rfl (by kernel_rfl) (by kernel_rfl) (by kernel_rfl) s92 ?_
  refine dx_skip 17 rfl rfl rfl rfl rfl rfl rfl (by kernel_rfl) (by kernel_rfl) (by kernel_rfl) s92 ?_
  refine dx_skip 18 rfl rfl rfl rfl rfl rfl rfl (by kernel_rfl) (by kernel_rfl) (by kernel_rfl) s92 ?_
  refine dx_take 19 rfl rfl rfl rfl (by kernel_rfl) (by kernel_rfl) (by kernel_rfl) s92 (fun _ hS => px_pick rfl rfl) ?_
  refine dx_done (by kernel_rfl) ?_
  refine q_n (k14 _ _ ?_)
  refine sx_sub (Sub.cons (t := 3) rfl (.cons (t := 6) rfl (.cons (t := 7) rfl (.cons (t := 35) rfl (.nil))))) ?_
  refine sx_condF rfl ?_
  refine sx_skip ?_
  refine q_n (k13 _ _ ?_)
  refine sx_seq fun K93 k93 => sx_region ?_
  refine sx_pure rfl rfl rfl (px_field rfl xfld28x0) ?_
  have f94 := f88.ext d92
  refine sx_pure rfl rfl rfl (px_load rfl (f94.load1 rfl Try.isAgg4)) ?_
  refine sm rfl rfl rfl rfl ?_
  have f95 := os_12.ext d92
  refine sx_call rfl rfl Try.call45 (c_signed f95.sv (by have h9 := rq_len (x := x) (d := d) (m := m) hbx; rw [e] at h9; omega)) (fun v96 w96 p96 => ?_)
  obtain ⟨rfl, c96⟩ := p96
  have zw96 := c96.size
  have f98 := f89.ext d92
  have f99 := f98.ext c96
  have f100 := f95.ext c96
  refine sx_store (vs := [.bool (nz (ng x) (dg (x.natAbs / d))), s12]) rfl rfl f99 rfl Try.sizeOf28 (Nat.le_of_ble_eq_true rfl) (one_cons rfl (one_cons f100.one one_nil)) (fun w97 sw97 fw97 cw97 => ?_)
  have zw97 := cw97.size
  have gw97 : Blk w97 b4 [.bool (nz (ng x) (dg (x.natAbs / d))), s12] 28 := fw97
  refine wl_nil (q_n (k93 _ _ ?_))
  refine sx_retc ?_
  refine sx_ret1 Try.results58 ⟨_, rfl, gw97.loadA (vs := [.bool (nz (ng x) (dg (x.natAbs / d))), s12]) (look_lit rfl) Try.isAgg28 Try.sizeOf28⟩ ?_
  have hh := rqI_sg x d m
  rw [e] at hh
  rw [← hh.1, ← hh.2]
  have q101 := Chg.step (l := 0) (h := 0) (Chg.zero (l := 0) (h := 0) ((((cb2.t cb4).t c12).t d92).t c96)) cw97 (by omega)
  have f102 := f100.chg cw97 (by omega)
  exact ⟨_, rfl, (Own.mono f102 (by omega) (by omega)), q101⟩

theorem c_iRatDec {w : World} {n1 : Bool} {v1 : Value} {lv1 uv1 : Nat} {z1 : List Int} {d1 : Value} {ld1 ud1 : Nat} {y1 : List Int} {q : Int} {m : Int} (hv1 : Sl w lv1 uv1 v1 (z1)) (hd1 : Sl w ld1 ud1 d1 (y1)) (h63 : z1.length ≤ 4611686018427387904 ∧ y1.length ≤ 4611686018427387904) :
  Ret Try.prog 20 [.agg #[.bool n1, v1, d1], .int .i64 q, .int .i64 m] w fun v w' => ∃ s, v = .tuple #[.agg #[.bool ((rDec n1 z1 y1 q m).1), s, .int .i64 ((rDec n1 z1 y1 q m).2.2.1)], .bool ((rDec n1 z1 y1 q m).2.2.2)] ∧ OwnI w' w.heap.size w'.heap.size s intT ((rDec n1 z1 y1 q m).2.1) ∧ ((rDec n1 z1 y1 q m).2.1.length ≤ 6) ∧ Chg 0 0 w w' := by
 have hv10 := hv1.fit
 have hd10 := hd1.fit
 refine sx_enter Try.func20 rfl Try.ntmps20 (Nat.le_of_ble_eq_true rfl) ?_
 refine sx_seq fun K1 k1 => sx_region ?_
 refine sx_box [.bool n1, v1, d1] rfl rfl rfl (fun b2 w3 eb2 sb2 fb2 cb2 => ?_)
 have zw3 := cb2.size
 refine sx_alloc [.bool false, (.slice none 0 0), .int .i64 0] rfl Try.zeroValue30 rfl (fun b4 w5 eb4 sb4 fb4 cb4 => ?_)
 have zw5 := cb4.size
 refine sa rfl rfl rfl rfl ?_
 refine wl_nil (q_n (k1 _ _ ?_))
 refine sx_seq fun K6 k6 => ?_
 refine sx_seq fun K7 k7 => sx_region ?_
 have f8 := fb2.ext cb4
 refine sx_pure rfl rfl rfl (px_load rfl (f8.loadA (vs := [.bool n1, v1, d1]) (look_lit rfl) Try.isAgg44 Try.sizeOf44)) ?_
 have f9 := hv10.ext cb2
 have f10 := f9.ext cb4
 have f11 := hd10.ext cb2
 have f12 := f11.ext cb4
 refine sx_call rfl rfl Try.call56 (c_iRatOk f10 f12 (by omega)) (fun v13 w13 p13 => ?_)
 obtain ⟨rfl, c13⟩ := p13
 have zw13 := c13.size
 refine sx_pure rfl rfl rfl (px_notP rfl) ?_
 refine sm rfl rfl rfl rfl ?_
 refine sx_tmpP (t := 11) rfl (fun h147 => ?_) (fun h147 => ?_)
 ·
  refine sx_guardF rfl rfl rfl rfl rfl rfl ?_
  refine sx_guardF rfl rfl rfl rfl rfl rfl ?_
  refine sx_guardF rfl rfl rfl rfl rfl rfl ?_
  refine sx_pure rfl rfl rfl (px_pick rfl rfl) ?_
  refine sm rfl rfl rfl rfl ?_
  refine sx_guardF rfl rfl rfl rfl rfl rfl ?_
  refine sx_guardF rfl rfl rfl rfl rfl rfl ?_
  refine sx_guardF rfl rfl rfl rfl rfl rfl ?_
  refine sx_pure rfl rfl rfl (px_pick rfl rfl) ?_
  refine wl_nil (q_n (k7 _ _ ?_))
  refine sx_sub (Sub.cons (t := 1) rfl (.cons (t := 2) rfl (.cons (t := 3) rfl (.cons (t := 6) rfl (.cons (t := 7) rfl (.cons (t := 20) rfl (.nil))))))) ?_
  refine sx_condT rfl ?_
  refine sx_seq fun K14 k14 => sx_region ?_
  refine sx_pure rfl rfl rfl (px_build rfl (xbld30x  _)) ?_
  have f16 := fb4.ext c13
  refine sx_store (vs := [.bool false, (.slice none 0 0), .int .i64 0]) rfl rfl f16 rfl Try.sizeOf30 (Nat.le_of_ble_eq_true rfl) (one_cons rfl (one_cons rfl (one_cons rfl one_nil))) (fun w15 sw15 fw15 cw15 => ?_)
  have zw15 := cw15.size
  have gw15 : Blk w15 b4 [.bool false, (.slice none 0 0), .int .i64 0] 30 := fw15
  refine sa rfl rfl rfl rfl ?_
  refine wl_nil (q_n (k14 _ _ ?_))
  refine sx_retc ?_
  refine q_r (sx_ret2 Try.results20 ⟨_, rfl, gw15.loadA (vs := [.bool false, (.slice none 0 0), .int .i64 0]) (look_lit rfl) Try.isAgg30 Try.sizeOf30⟩ rfl ?_)
  rw [rDec_no (by grind)]
  have q17 := Chg.step (l := 0) (h := 0) (Chg.zero (l := 0) (h := 0) ((cb2.t cb4).t c13)) cw15 (by omega)
  exact ⟨_, rfl, Own.nil _ _ _ _ _, by simp [noD], q17⟩
 ·
  refine sx_guardT rfl rfl rfl ?_
  refine sm rfl rfl rfl rfl ?_
  refine sx_guardT rfl rfl rfl ?_
  refine sx_call rfl rfl Try.call40 (c_isScale) (fun v18 w18 p18 => ?_)
  obtain ⟨rfl, c18⟩ := p18
  have zw18 := c18.size
  refine sx_guardT rfl rfl rfl ?_
  refine sx_pure rfl rfl rfl (px_notP rfl) ?_
  refine sx_pure rfl rfl rfl (px_pick rfl rfl) ?_
  refine sm rfl rfl rfl rfl ?_
  refine sx_tmpP (t := 16) rfl (fun h147x1 => ?_) (fun h147x1 => ?_)
  ·
   refine sx_guardF rfl rfl rfl rfl rfl rfl ?_
   refine sx_guardF rfl rfl rfl rfl rfl rfl ?_
   refine sx_guardF rfl rfl rfl rfl rfl rfl ?_
   refine sx_pure rfl rfl rfl (px_pick rfl rfl) ?_
   refine wl_nil (q_n (k7 _ _ ?_))
   refine sx_sub (Sub.cons (t := 1) rfl (.cons (t := 2) rfl (.cons (t := 3) rfl (.cons (t := 6) rfl (.cons (t := 7) rfl (.cons (t := 20) rfl (.nil))))))) ?_
   refine sx_condT rfl ?_
   refine sx_seq fun K19 k19 => sx_region ?_
   refine sx_pure rfl rfl rfl (px_build rfl (xbld30x  _)) ?_
   have f21 := fb4.ext c13
   have f22 := f21.ext c18
   refine sx_store (vs := [.bool false, (.slice none 0 0), .int .i64 0]) rfl rfl f22 rfl Try.sizeOf30 (Nat.le_of_ble_eq_true rfl) (one_cons rfl (one_cons rfl (one_cons rfl one_nil))) (fun w20 sw20 fw20 cw20 => ?_)
   have zw20 := cw20.size
   have gw20 : Blk w20 b4 [.bool false, (.slice none 0 0), .int .i64 0] 30 := fw20
   refine sa rfl rfl rfl rfl ?_
   refine wl_nil (q_n (k19 _ _ ?_))
   refine sx_retc ?_
   refine q_r (sx_ret2 Try.results20 ⟨_, rfl, gw20.loadA (vs := [.bool false, (.slice none 0 0), .int .i64 0]) (look_lit rfl) Try.isAgg30 Try.sizeOf30⟩ rfl ?_)
   rw [rDec_no (by grind)]
   have q23 := Chg.step (l := 0) (h := 0) (Chg.zero (l := 0) (h := 0) (((cb2.t cb4).t c13).t c18)) cw20 (by omega)
   exact ⟨_, rfl, Own.nil _ _ _ _ _, by simp [noD], q23⟩
  ·
   refine sx_guardT rfl rfl rfl ?_
   refine sm rfl rfl rfl rfl ?_
   refine sx_guardT rfl rfl rfl ?_
   refine sx_call rfl rfl Try.call57 (c_isMode) (fun v24 w24 p24 => ?_)
   obtain ⟨rfl, c24⟩ := p24
   have zw24 := c24.size
   refine sx_guardT rfl rfl rfl ?_
   refine sx_pure rfl rfl rfl (px_notP rfl) ?_
   refine sx_pure rfl rfl rfl (px_pick rfl rfl) ?_
   refine wl_nil (q_n (k7 _ _ ?_))
   refine sx_sub (Sub.cons (t := 1) rfl (.cons (t := 2) rfl (.cons (t := 3) rfl (.cons (t := 6) rfl (.cons (t := 7) rfl (.cons (t := 20) rfl (.nil))))))) ?_
   refine sx_condP rfl (fun h147x2 => ?_) (fun h147x2 => ?_)
   ·
    refine sx_seq fun K25 k25 => sx_region ?_
    refine sx_pure rfl rfl rfl (px_build rfl (xbld30x  _)) ?_
    have f27 := fb4.ext c13
    have f28 := f27.ext c18
    have f29 := f28.ext c24
    refine sx_store (vs := [.bool false, (.slice none 0 0), .int .i64 0]) rfl rfl f29 rfl Try.sizeOf30 (Nat.le_of_ble_eq_true rfl) (one_cons rfl (one_cons rfl (one_cons rfl one_nil))) (fun w26 sw26 fw26 cw26 => ?_)
    have zw26 := cw26.size
    have gw26 : Blk w26 b4 [.bool false, (.slice none 0 0), .int .i64 0] 30 := fw26
    refine sa rfl rfl rfl rfl ?_
    refine wl_nil (q_n (k25 _ _ ?_))
    refine sx_retc ?_
    refine q_r (sx_ret2 Try.results20 ⟨_, rfl, gw26.loadA (vs := [.bool false, (.slice none 0 0), .int .i64 0]) (look_lit rfl) Try.isAgg30 Try.sizeOf30⟩ rfl ?_)
    rw [rDec_no (by grind)]
    have q30 := Chg.step (l := 0) (h := 0) (Chg.zero (l := 0) (h := 0) ((((cb2.t cb4).t c13).t c18).t c24)) cw26 (by omega)
    exact ⟨_, rfl, Own.nil _ _ _ _ _, by simp [noD], q30⟩
   ·
    have hR := Decidable.not_not.1 h147
    have hQ := Decidable.not_not.1 h147x1
    have hM := Decidable.not_not.1 h147x2
    obtain ⟨x1, e1, rfl, rfl, rfl, he0, hx1, he1, hg1⟩ := hR.rat
    have lt9 := ten_len' (k := q) (by omega)
    have lm9 := len_mul x1.natAbs (10 ^ q.toNat)
    have na9 := natAbs_ten x1 q
    have lr9 : (dg (rqI (x1 * ((10 ^ q.toNat : Nat) : Int)) e1 m).natAbs).length ≤ 50 := by unfold rqI; rw [sgI_abs]; exact rq_len (k := 49) (by rw [Int.natAbs_mul, Int.natAbs_natCast]; omega)
    refine sx_skip ?_
    refine q_n (k6 _ _ ?_)
    refine sx_seq fun K31 k31 => ?_
    have f32 := f8.ext c13
    have f33 := f32.ext c18
    have f34 := f33.ext c24
    have f35 := f10.ext c13
    have f36 := f35.ext c18
    have f37 := f36.ext c24
    have f38 := f12.ext c13
    have f39 := f38.ext c18
    have f40 := f39.ext c24
    refine dx_region (fun w' => Chg b4 (b4 + 1) w24 w') (by kernel_rfl) (Chg.zero (Chg.drew _)) ?_
    have d41 := Chg.drew w24
    have s41 : Chg b4 (b4 + 1) w24 (World.drew w24) := Chg.zero (Chg.drew _)
    have y41 : (World.drew w24).heap.size = w24.heap.size := rfl
    generalize World.drew w24 = w41 at *
    have zw41 := d41.size
    refine dx_take 0 rfl rfl rfl rfl (by kernel_rfl) (by kernel_rfl) (by kernel_rfl) s41 (fun _ hS => px_load rfl ((f34.chg hS (by omega)).loadA (vs := [.bool (ng x1), v1, d1]) (look_lit rfl) Try.isAgg44 Try.sizeOf44)) ?_
    refine dx_take 1 rfl rfl rfl rfl (by kernel_rfl) (by kernel_rfl) (by kernel_rfl) s41 (fun _ hS => px_move rfl) ?_
    refine dx_take 4 rfl rfl rfl rfl (by kernel_rfl) (by kernel_rfl) (by kernel_rfl) s41 (fun _ hS => px_field rfl xfld44x1) ?_
    refine dx_take 5 rfl rfl rfl rfl (by kernel_rfl) (by kernel_rfl) (by kernel_rfl) s41 (fun _ hS => px_load rfl ((f34.chg hS (by omega)).load1 rfl Try.isAgg22)) ?_
    refine dx_take 6 rfl rfl rfl rfl (by kernel_rfl) (by kernel_rfl) (by kernel_rfl) s41 (fun _ hS => px_move rfl) ?_
    refine dx_take 8 rfl rfl rfl rfl (by kernel_rfl) (by kernel_rfl) (by kernel_rfl) s41 (fun _ hS => px_move rfl) ?_
    refine dx_eff 2 rfl (by kernel_rfl) ?_
    refine sx_call rfl rfl Try.call44 (c_natTen (by omega)) (fun v42 w42 p42 => ?_)
    obtain ⟨s42, rfl, os_42, c42⟩ := p42
    have zw42 := c42.size
    have s43 : Chg b4 (b4 + 1) w24 w42 := (Chg.zero (l := b4) (h := (b4 + 1)) (d41.t c42))
    refine wl_nil ?_
    refine dx_next s43 ?_
    refine dx_eff 3 rfl (by kernel_rfl) ?_
    have f44 := f37.ext d41
    have f45 := f44.ext c42
    have f46 := f40.ext d41
    have f47 := f46.ext c42
    refine sx_call rfl rfl Try.call59 (c_ratNum f45 f47 os_42.sv (by omega) (by omega)) (fun v48 w48 p48 => ?_)
    obtain ⟨s48, rfl, os_48, c48⟩ := p48
    have zw48 := c48.size
    have s49 : Chg b4 (b4 + 1) w24 w48 := (Chg.zero (l := b4) (h := (b4 + 1)) ((d41.t c42).t c48))
    refine wl_nil ?_
    refine dx_next s49 ?_
    refine dx_eff 7 rfl (by kernel_rfl) ?_
    have f50 := f47.ext c48
    refine sx_call rfl rfl Try.call58 (c_roundQuotient os_48.sv f50 (by rw [Int.natAbs_mul, Int.natAbs_natCast]; omega) (by omega) (by omega) (by omega)) (fun v51 w51 p51 => ?_)
    obtain ⟨s51, rfl, os_51, c51⟩ := p51
    have zw51 := c51.size
    have s52 : Chg b4 (b4 + 1) w24 w51 := (Chg.zero (l := b4) (h := (b4 + 1)) (((d41.t c42).t c48).t c51))
    refine wl_nil ?_
    refine dx_next s52 ?_
    refine dx_eff 9 rfl (by kernel_rfl) ?_
    refine sx_call rfl rfl Try.call41 (c_decOf os_51 (by omega) (by omega)) (fun v53 w53 p53 => ?_)
    obtain ⟨s53, rfl, os_53, c53⟩ := p53
    have zw53 := c53.size
    have s54 : Chg b4 (b4 + 1) w24 w53 := (Chg.zero (l := b4) (h := (b4 + 1)) ((((d41.t c42).t c48).t c51).t c53))
    refine wl_nil ?_
    refine dx_next s54 ?_
    refine dx_take 10 rfl rfl rfl rfl (by kernel_rfl) (by kernel_rfl) (by kernel_rfl) s54 (fun _ hS => px_extract (vs := [.agg #[.bool ((decR (rqI (x1 * (((10 ^ (q).toNat) : Nat) : Int)) e1 m) q).1), s53, .int .i64 ((decR (rqI (x1 * (((10 ^ (q).toNat) : Nat) : Int)) e1 m) q).2.2.1)], .bool ((decR (rqI (x1 * (((10 ^ (q).toNat) : Nat) : Int)) e1 m) q).2.2.2)]) rfl rfl) ?_
    refine dx_take 11 rfl rfl rfl rfl (by kernel_rfl) (by kernel_rfl) (by kernel_rfl) s54 (fun _ hS => px_extract (vs := [.agg #[.bool ((decR (rqI (x1 * (((10 ^ (q).toNat) : Nat) : Int)) e1 m) q).1), s53, .int .i64 ((decR (rqI (x1 * (((10 ^ (q).toNat) : Nat) : Int)) e1 m) q).2.2.1)], .bool ((decR (rqI (x1 * (((10 ^ (q).toNat) : Nat) : Int)) e1 m) q).2.2.2)]) rfl rfl) ?_
    refine dx_eff 12 rfl (by kernel_rfl) ?_
    have f56 := fb4.ext c13
    have f57 := f56.ext c18
    have f58 := f57.ext c24
    have f59 := f58.ext d41
    have f60 := f59.ext c42
    have f61 := f60.ext c48
    have f62 := f61.ext c51
    have f63 := f62.ext c53
    refine sx_store (vs := [.bool ((decR (rqI (x1 * (((10 ^ (q).toNat) : Nat) : Int)) e1 m) q).1), s53, .int .i64 ((decR (rqI (x1 * (((10 ^ (q).toNat) : Nat) : Int)) e1 m) q).2.2.1)]) rfl rfl f63 rfl Try.sizeOf30 (Nat.le_of_ble_eq_true rfl) (one_cons rfl (one_cons os_53.one (one_cons rfl one_nil))) (fun w55 sw55 fw55 cw55 => ?_)
    have zw55 := cw55.size
    have gw55 : Blk w55 b4 [.bool ((decR (rqI (x1 * (((10 ^ (q).toNat) : Nat) : Int)) e1 m) q).1), s53, .int .i64 ((decR (rqI (x1 * (((10 ^ (q).toNat) : Nat) : Int)) e1 m) q).2.2.1)] 30 := fw55
    have q65 := Chg.step (l := b4) (h := (b4 + 1)) (Chg.zero (l := b4) (h := (b4 + 1)) ((((d41.t c42).t c48).t c51).t c53)) cw55 (by omega)
    have s64 : Chg b4 (b4 + 1) w24 w55 := q65
    refine wl_nil ?_
    refine dx_next s64 ?_
    refine dx_take 13 rfl rfl rfl rfl (by kernel_rfl) (by kernel_rfl) (by kernel_rfl) s64 (fun _ hS => px_assign rfl) ?_
    refine dx_done (by kernel_rfl) ?_
    refine q_n (k31 _ _ ?_)
    refine sx_sub (Sub.cons (t := 6) rfl (.cons (t := 7) rfl (.nil))) ?_
    refine sx_retc ?_
    refine sx_ret2 Try.results20 ⟨_, rfl, gw55.loadA (vs := [.bool ((decR (rqI (x1 * (((10 ^ (q).toNat) : Nat) : Int)) e1 m) q).1), s53, .int .i64 ((decR (rqI (x1 * (((10 ^ (q).toNat) : Nat) : Int)) e1 m) q).2.2.1)]) (look_lit rfl) Try.isAgg30 Try.sizeOf30⟩ rfl ?_
    have hrl := rDec_len (n := ng x1) (z := dg x1.natAbs) (y := dg e1) (q := q) (m := m)
    rw [rDec_ok ⟨hR, hQ, hM⟩] at hrl ⊢
    have q66 := Chg.step (l := 0) (h := 0) (Chg.zero (l := 0) (h := 0) (((((((((cb2.t cb4).t c13).t c18).t c24).t d41).t c42).t c48).t c51).t c53)) cw55 (by omega)
    have f67 := os_53.chg cw55 (by omega)
    exact ⟨_, rfl, (Own.mono f67 (by omega) (by omega)), hrl, q66⟩

theorem c_eqRat {w : World} {n1 : Bool} {v1 : Value} {lv1 uv1 : Nat} {z1 : List Int} {d1 : Value} {ld1 ud1 : Nat} {y1 : List Int} {n2 : Bool} {v2 : Value} {lv2 uv2 : Nat} {z2 : List Int} {d2 : Value} {ld2 ud2 : Nat} {y2 : List Int} (hv1 : Sl w lv1 uv1 v1 (z1)) (hd1 : Sl w ld1 ud1 d1 (y1)) (hv2 : Sl w lv2 uv2 v2 (z2)) (hd2 : Sl w ld2 ud2 d2 (y2)) (h63 : z1.length ≤ 4611686018427387904 ∧ y1.length ≤ 4611686018427387904 ∧ z2.length ≤ 4611686018427387904 ∧ y2.length ≤ 4611686018427387904) :
  Ret Try.prog 21 [.agg #[.bool n1, v1, d1], .agg #[.bool n2, v2, d2]] w fun v w' => v = .bool (decide (n1 = n2 ∧ z1 = z2 ∧ y1 = y2)) ∧ Chg 0 0 w w' := by
 have hv10 := hv1.fit
 have hd10 := hd1.fit
 have hv20 := hv2.fit
 have hd20 := hd2.fit
 refine sx_enter Try.func21 rfl Try.ntmps21 (Nat.le_of_ble_eq_true rfl) ?_
 refine sx_seq fun K1 k1 => sx_region ?_
 refine sx_box [.bool n1, v1, d1] rfl rfl rfl (fun b2 w3 eb2 sb2 fb2 cb2 => ?_)
 have zw3 := cb2.size
 refine sx_box [.bool n2, v2, d2] rfl rfl rfl (fun b4 w5 eb4 sb4 fb4 cb4 => ?_)
 have zw5 := cb4.size
 refine sa rfl rfl rfl rfl ?_
 refine wl_nil (q_n (k1 _ _ ?_))
 refine sx_seq fun K6 k6 => ?_
 refine sx_seq fun K7 k7 => sx_region ?_
 refine sx_pure rfl rfl rfl (px_field rfl xfld44x0) ?_
 have f8 := fb2.ext cb4
 refine sx_pure rfl rfl rfl (px_load rfl (f8.loadA (vs := [.bool n1, v1]) (look_lit rfl) Try.isAgg28 Try.sizeOf28)) ?_
 refine sx_pure rfl rfl rfl (px_field rfl xfld44x0) ?_
 refine sx_pure rfl rfl rfl (px_load rfl (fb4.loadA (vs := [.bool n2, v2]) (look_lit rfl) Try.isAgg28 Try.sizeOf28)) ?_
 have f9 := hv10.ext cb2
 have f10 := f9.ext cb4
 have f11 := hv20.ext cb2
 have f12 := f11.ext cb4
 refine sx_call rfl rfl Try.call25 (c_eqSigned f10 f12 (by omega)) (fun v13 w13 p13 => ?_)
 obtain ⟨rfl, c13⟩ := p13
 have zw13 := c13.size
 refine sx_pure rfl rfl rfl (px_notP rfl) ?_
 refine wl_nil (q_n (k7 _ _ ?_))
 refine sx_condP rfl (fun h362 => ?_) (fun h362 => ?_)
 ·
  refine sx_seq fun K14 k14 => sx_region ?_
  refine sa rfl rfl rfl rfl ?_
  refine wl_nil (q_n (k14 _ _ ?_))
  refine sx_retc ?_
  refine q_r (sx_ret1 Try.results21 rfl ?_)
  exact ⟨(by first | exact bTrue (by grind) | exact bFalse (by grind) | exact bIff (by grind)), ((cb2.t cb4).t c13)⟩
 ·
  refine sx_skip ?_
  refine q_n (k6 _ _ ?_)
  refine sx_seq fun K15 k15 => ?_
  refine sx_seq fun K16 k16 => sx_region ?_
  refine sx_pure rfl rfl rfl (px_field rfl xfld44x1) ?_
  have f17 := f8.ext c13
  refine sx_pure rfl rfl rfl (px_load rfl (f17.load1 rfl Try.isAgg22)) ?_
  refine sx_pure rfl rfl rfl (px_field rfl xfld44x1) ?_
  have f18 := fb4.ext c13
  refine sx_pure rfl rfl rfl (px_load rfl (f18.load1 rfl Try.isAgg22)) ?_
  have f19 := hd10.ext cb2
  have f20 := f19.ext cb4
  have f21 := f20.ext c13
  have f22 := hd20.ext cb2
  have f23 := f22.ext cb4
  have f24 := f23.ext c13
  refine sx_call rfl rfl Try.call60 (c_eqIntS f21 f24 (by omega)) (fun v25 w25 p25 => ?_)
  obtain ⟨rfl, c25⟩ := p25
  have zw25 := c25.size
  refine sx_pure rfl rfl rfl (px_notP rfl) ?_
  refine wl_nil (q_n (k16 _ _ ?_))
  refine sx_sub (Sub.cons (t := 4) rfl (.cons (t := 16) rfl (.nil))) ?_
  refine sx_condP rfl (fun h365 => ?_) (fun h365 => ?_)
  ·
   refine sx_seq fun K26 k26 => sx_region ?_
   refine sa rfl rfl rfl rfl ?_
   refine wl_nil (q_n (k26 _ _ ?_))
   refine sx_retc ?_
   refine q_r (sx_ret1 Try.results21 rfl ?_)
   exact ⟨(by first | exact bTrue (by grind) | exact bFalse (by grind) | exact bIff (by grind)), (((cb2.t cb4).t c13).t c25)⟩
  ·
   refine sx_skip ?_
   refine q_n (k15 _ _ ?_)
   refine sx_seq fun K27 k27 => sx_region ?_
   refine sa rfl rfl rfl rfl ?_
   refine wl_nil (q_n (k27 _ _ ?_))
   refine sx_retc ?_
   refine sx_ret1 Try.results21 rfl ?_
   exact ⟨(by first | exact bTrue (by grind) | exact bFalse (by grind) | exact bIff (by grind)), (((cb2.t cb4).t c13).t c25)⟩

theorem c_markRat {w : World} {n1 : Bool} {v1 : Value} {lv1 uv1 : Nat} {z1 : List Int} {d1 : Value} {ld1 ud1 : Nat} {y1 : List Int} {n : Int} (hv1 : OwnI w lv1 uv1 v1 intT (z1)) (hd1 : OwnI w ld1 ud1 d1 intT (y1)) (h63 : z1.length ≤ 1048576 ∧ y1.length ≤ 1048576) (hn : 0 ≤ n ∧ n ≤ 4000000000000000000) (hdd : (uv1 ≤ ld1 ∨ ud1 ≤ lv1) ∧ uv1 ≤ w.heap.size ∧ ud1 ≤ w.heap.size) :
  Ret Try.prog 22 [.agg #[.bool n1, v1, d1], .int .i64 n] w fun v w' => v = .int .i64 (n + ↑(z1).length + ↑(y1).length) ∧ OwnI w' (lv1) (uv1) v1 intT (mk n (z1).length) ∧ OwnI w' (ld1) (ud1) d1 intT (mk (n + ↑(z1).length) (y1).length) ∧ Chg (min lv1 ld1) (max uv1 ud1) w w' := by
 refine sx_enter Try.func22 rfl Try.ntmps22 (Nat.le_of_ble_eq_true rfl) ?_
 refine sx_seq fun K1 k1 => sx_region ?_
 refine sx_box [.bool n1, v1, d1] rfl rfl rfl (fun b2 w3 eb2 sb2 fb2 cb2 => ?_)
 have zw3 := cb2.size
 refine sa rfl rfl rfl rfl ?_
 refine wl_nil (q_n (k1 _ _ ?_))
 refine sx_seq fun K4 k4 => sx_region ?_
 refine sx_pure rfl rfl rfl (px_field rfl xfld44x0) ?_
 refine sx_pure rfl rfl rfl (px_load rfl (fb2.loadA (vs := [.bool n1, v1]) (look_lit rfl) Try.isAgg28 Try.sizeOf28)) ?_
 refine sm rfl rfl rfl rfl ?_
 have f5 := hv1.ext cb2
 refine sx_call rfl rfl Try.call26 (c_markSigned f5 (by omega) (by omega)) (fun v6 w6 p6 => ?_)
 obtain ⟨rfl, ov1_6, c6⟩ := p6
 have zw6 := c6.size
 refine sa rfl rfl rfl rfl ?_
 refine wl_nil (q_n (k4 _ _ ?_))
 refine sx_seq fun K7 k7 => sx_region ?_
 refine sx_pure rfl rfl rfl (px_field rfl xfld44x1) ?_
 have f8 := fb2.chg c6 (by omega)
 refine sx_pure rfl rfl rfl (px_load rfl (f8.load1 rfl Try.isAgg22)) ?_
 refine sm rfl rfl rfl rfl ?_
 have f9 := hd1.ext cb2
 have f10 := f9.chg c6 (by omega)
 refine sx_call rfl rfl Try.call61 (c_markIntS f10 (by omega) (by omega)) (fun v11 w11 p11 => ?_)
 obtain ⟨rfl, ova_11, c11⟩ := p11
 have zw11 := c11.size
 refine sa rfl rfl rfl rfl ?_
 refine wl_nil (q_n (k7 _ _ ?_))
 refine sx_seq fun K12 k12 => sx_region ?_
 refine sm rfl rfl rfl rfl ?_
 refine sa rfl rfl rfl rfl ?_
 refine wl_nil (q_n (k12 _ _ ?_))
 refine sx_retc ?_
 refine sx_ret1 Try.results22 rfl ?_
 have f13 := ov1_6.chg c11 (by omega)
 have q14 := Chg.step (l := (min lv1 ld1)) (h := (max uv1 ud1)) (Chg.zero (l := (min lv1 ld1)) (h := (max uv1 ud1)) cb2) c6 (by omega)
 have q15 := Chg.step (l := (min lv1 ld1)) (h := (max uv1 ud1)) q14 c11 (by omega)
 exact ⟨rfl, f13, ova_11, q15⟩

end Go.Proofs.Ytfoceofnldnbgaa
