/- Contracts of functions of the program: what each call returns, and that it changes nothing that was. Conditions: as each says. -/
import Derived.Test.YteiifmkclokgnaaTy
import Derived.Test.YteiifmkclokgnaaNatH
import Derived.Test.YteiifmkclokgnaaSxB
import Derived.Test.YteiifmkclokgnaaRm
import Derived.Test.YteiifmkclokgnaaK0
import Derived.Test.YteiifmkclokgnaaK1
import Derived.Test.YteiifmkclokgnaaK3
set_option linter.unusedVariables false
set_option linter.unusedSimpArgs false
namespace Go.Proofs.Yteiifmkclokgnaa
open Go Go.RowKit
set_option maxRecDepth 100000
theorem c_l06Mode {w : World} {m : Int} :
  Ret Try.prog 98 [.int .i64 m] w fun v w' => v = .bool (decide (0 ≤ m ∧ m ≤ 6)) ∧ Chg 0 0 w w' := by
 refine sx_enter Try.func98 rfl Try.ntmps98 (Nat.le_of_ble_eq_true rfl) ?_
 refine sx_seq fun K1 k1 => sx_region ?_
 refine sa rfl rfl rfl rfl ?_
 refine wl_nil (q_n (k1 _ _ ?_))
 refine sx_seq fun K2 k2 => sx_region ?_
 refine sm rfl rfl rfl rfl ?_
 refine sx_call rfl rfl Try.call61 (c_l01In) (fun v3 w3 p3 => ?_)
 obtain ⟨rfl, c3⟩ := p3
 have zw3 := c3.size
 refine sa rfl rfl rfl rfl ?_
 refine wl_nil (q_n (k2 _ _ ?_))
 refine sx_retc ?_
 refine sx_ret1 Try.results98 rfl ?_
 exact ⟨(by first | exact bTrue (by grind) | exact bFalse (by grind) | exact bIff (by grind)), c3⟩

theorem c_l02Add1 {w : World} {va : Value} {lva uva : Nat} {m : Nat} {vb : Value} {lvb uvb : Nat} {ys : List Int} (hva : Sl w lva uva va (dg m)) (hvb : Sl w lvb uvb vb (ys)) (hbm : (dg m).length ≤ 1000) (hy : ys = [1]) :
  Ret Try.prog 125 [va, vb] w fun v w' => ∃ s, v = s ∧ Sl w' (w.heap.size) (w'.heap.size) s (dg (m + 1)) ∧ Chg 0 0 w w' := by
 rw [hy, ← dg_1] at hvb; exact c_l02Add hva hvb hbm (by rw [dg_1]; simp)

theorem c_sNatEven {w : World} {va : Value} {lva uva : Nat} {m : Nat} (hva : Sl w lva uva va (dg m)) (hbm : (dg m).length ≤ 50) :
  Ret Try.prog 134 [va] w fun v w' => v = .bool (decide (¬ m % 2 = 1)) ∧ Chg 0 0 w w' := by
 have hva0 := hva.fit
 refine sx_enter Try.func134 rfl Try.ntmps134 (Nat.le_of_ble_eq_true rfl) ?_
 refine sx_seq fun K1 k1 => sx_region ?_
 refine sa rfl rfl rfl rfl ?_
 refine wl_nil (q_n (k1 _ _ ?_))
 refine sx_seq fun K2 k2 => sx_region ?_
 refine sm rfl rfl rfl rfl ?_
 refine sx_call rfl rfl Try.call103 (c_sNatOk hva0 (by omega)) (fun v3 w3 p3 => ?_)
 obtain ⟨rfl, c3⟩ := p3
 have zw3 := c3.size
 refine sm rfl rfl rfl rfl ?_
 have h117 : NOk (dg m) := NOk_dg (by omega)
 refine sx_tmpPT (t := 5) rfl h117 ?_
 refine sx_guardT rfl rfl rfl ?_
 refine sm rfl rfl rfl rfl ?_
 refine sx_guardT rfl rfl rfl ?_
 have f4 := hva0.ext c3
 refine sx_pure rfl rfl rfl (px_len rfl Try.underlying22 f4) ?_
 refine sx_guardT rfl rfl rfl ?_
 refine sx_pure rfl rfl rfl (px_eq rfl rfl) ?_
 refine sx_guardT rfl rfl rfl ?_
 refine sm rfl rfl rfl rfl ?_
 refine sx_tmpP (t := 9) rfl (fun h117x1 => ?_) (fun h117x1 => ?_)
 ·
  refine sx_guardF rfl rfl rfl rfl rfl rfl ?_
  refine sx_guardF rfl rfl rfl rfl rfl rfl ?_
  refine sx_guardF rfl rfl rfl rfl rfl rfl ?_
  refine sx_guardF rfl rfl rfl rfl rfl rfl ?_
  refine sx_guardF rfl rfl rfl rfl rfl rfl ?_
  refine sx_guardT rfl rfl rfl ?_
  refine sx_pure rfl rfl rfl (px_pick rfl rfl) ?_
  refine sx_pure rfl rfl rfl (px_pick rfl rfl) ?_
  refine sa rfl rfl rfl rfl ?_
  refine wl_nil (q_n (k2 _ _ ?_))
  refine sx_sub (Sub.cons (t := 2) rfl (.nil)) ?_
  refine sx_retc ?_
  refine sx_ret1 Try.results134 rfl ?_
  exact ⟨(by have hk := odd_dg (q := m); first | exact bTrue (hk.1 (.inl (by omega))) | exact bIff ⟨fun h => hk.1 (.inr h), fun h => (hk.2 h).resolve_left (by omega)⟩), c3⟩
 ·
  refine sx_guardT rfl rfl rfl ?_
  refine sm rfl rfl rfl rfl ?_
  refine sx_guardT rfl rfl rfl ?_
  refine sx_pure rfl rfl rfl (px_index1 (j := 0) rfl rfl (by omega) Try.underlying22 Try.sizeOf3 f4 (by omega)) ?_
  refine sx_guardT rfl rfl rfl ?_
  refine sx_pure rfl rfl rfl (px_load rfl (f4.load1 (at_int (by omega)) Try.isAgg3)) ?_
  refine sx_guardT rfl rfl rfl ?_
  refine sx_pure rfl rfl rfl (px_rem rfl rfl (by have := (Lm_dg m).getD 0; omega) (by omega)) ?_
  refine sx_guardT rfl rfl rfl ?_
  refine sx_pure rfl rfl rfl (px_eq rfl rfl) ?_
  refine sx_guardT rfl rfl rfl ?_
  refine sx_pure rfl rfl rfl (px_pick rfl rfl) ?_
  refine sx_pure rfl rfl rfl (px_pick rfl rfl) ?_
  refine sa rfl rfl rfl rfl ?_
  refine wl_nil (q_n (k2 _ _ ?_))
  refine sx_sub (Sub.cons (t := 2) rfl (.nil)) ?_
  refine sx_retc ?_
  refine sx_ret1 Try.results134 rfl ?_
  exact ⟨(by have hk := odd_dg (q := m); first | exact bTrue (hk.1 (.inl (by omega))) | exact bIff ⟨fun h => hk.1 (.inr h), fun h => (hk.2 h).resolve_left (by omega)⟩), c3⟩

theorem c_l06Away {w : World} {n : Bool} {vq : Value} {lvq uvq : Nat} {q : Nat} {vr : Value} {lvr uvr : Nat} {r : Nat} {vd : Value} {lvd uvd : Nat} {d : Nat} {m : Int} (hvq : Sl w lvq uvq vq (dg q)) (hvr : Sl w lvr uvr vr (dg r)) (hvd : Sl w lvd uvd vd (dg d)) (hbq : (dg q).length ≤ 50) (hbr : (dg r).length ≤ 390) (hbd : (dg d).length ≤ 390) (hm : 0 ≤ m ∧ m ≤ 6) :
  Ret Try.prog 124 [.bool n, vq, vr, vd, .int .i64 m] w fun v w' => v = .bool (awayB m n (cmpN (r + r) d) (decide (q % 2 = 1))) ∧ Chg 0 0 w w' := by
 have hvq0 := hvq.fit
 have hvr0 := hvr.fit
 have hvd0 := hvd.fit
 have lrr := len_add r r
 refine sx_enter Try.func124 rfl Try.ntmps124 (Nat.le_of_ble_eq_true rfl) ?_
 refine sx_seq fun K1 k1 => sx_region ?_
 refine sa rfl rfl rfl rfl ?_
 refine wl_nil (q_n (k1 _ _ ?_))
 refine sx_seq fun K2 k2 => sx_region ?_
 refine sm rfl rfl rfl rfl ?_
 refine sm rfl rfl rfl rfl ?_
 refine sx_call rfl rfl Try.call125 (c_l02Add hvr0 hvr0 (by omega) (by omega)) (fun v3 w3 p3 => ?_)
 obtain ⟨s3, rfl, os_3, c3⟩ := p3
 have zw3 := c3.size
 refine sm rfl rfl rfl rfl ?_
 have f4 := hvd0.ext c3
 refine sx_call rfl rfl Try.call76 (c_l02Cmp os_3 f4 (by omega)) (fun v5 w5 p5 => ?_)
 obtain ⟨rfl, c5⟩ := p5
 have zw5 := c5.size
 refine sa rfl rfl rfl rfl ?_
 refine wl_nil (q_n (k2 _ _ ?_))
 refine sx_seq fun K6 k6 => ?_
 refine sx_seq fun K7 k7 => sx_region ?_
 refine sm rfl rfl rfl rfl ?_
 refine wl_nil (q_n (k7 _ _ ?_))
 refine sx_block ?_
 refine sx_seq fun K8 k8 => sx_region ?_
 refine sx_pure rfl rfl rfl (px_eq rfl rfl) ?_
 refine sa rfl rfl rfl rfl ?_
 refine wl_nil (q_n (k8 _ _ ?_))
 refine sx_sub (Sub.cons (t := 0) rfl (.cons (t := 1) rfl (.cons (t := 10) rfl (.cons (t := 11) rfl (.cons (t := 17) rfl (.cons (t := 18) rfl (.nil))))))) ?_
 refine sx_condP rfl (fun h29 => ?_) (fun h29 => ?_)
 ·
  refine sx_seq fun K9 k9 => sx_region ?_
  refine sa rfl rfl rfl rfl ?_
  refine wl_nil (q_n (k9 _ _ ?_))
  refine sx_retc ?_
  refine q_br (q_r (sx_ret1 Try.results124 rfl ?_))
  have hcd := cmpL_dg (r + r) d
  exact ⟨by rw [← hcd]; simp_all [awayB], (c3.t c5)⟩
 ·
  refine sx_seq fun K10 k10 => sx_region ?_
  refine sx_pure rfl rfl rfl (px_eq rfl rfl) ?_
  refine sa rfl rfl rfl rfl ?_
  refine wl_nil (q_n (k10 _ _ ?_))
  refine sx_condP rfl (fun h31 => ?_) (fun h31 => ?_)
  ·
   refine sx_seq fun K11 k11 => sx_region ?_
   refine sa rfl rfl rfl rfl ?_
   refine wl_nil (q_n (k11 _ _ ?_))
   refine sx_retc ?_
   refine q_br (q_r (sx_ret1 Try.results124 rfl ?_))
   have hcd := cmpL_dg (r + r) d
   exact ⟨by rw [← hcd]; simp_all [awayB], (c3.t c5)⟩
  ·
   refine sx_seq fun K12 k12 => sx_region ?_
   refine sx_pure rfl rfl rfl (px_eq rfl rfl) ?_
   refine sa rfl rfl rfl rfl ?_
   refine wl_nil (q_n (k12 _ _ ?_))
   refine sx_condP rfl (fun h33 => ?_) (fun h33 => ?_)
   ·
    refine sx_seq fun K13 k13 => sx_region ?_
    refine sm rfl rfl rfl rfl ?_
    refine sa rfl rfl rfl rfl ?_
    refine wl_nil (q_n (k13 _ _ ?_))
    refine sx_retc ?_
    refine q_br (q_r (sx_ret1 Try.results124 rfl ?_))
    have hcd := cmpL_dg (r + r) d
    exact ⟨by rw [← hcd]; simp_all [awayB], (c3.t c5)⟩
   ·
    refine sx_seq fun K14 k14 => sx_region ?_
    refine sx_pure rfl rfl rfl (px_eq rfl rfl) ?_
    refine sa rfl rfl rfl rfl ?_
    refine wl_nil (q_n (k14 _ _ ?_))
    refine sx_condP rfl (fun h35 => ?_) (fun h35 => ?_)
    ·
     refine sx_seq fun K15 k15 => sx_region ?_
     refine sm rfl rfl rfl rfl ?_
     refine sx_pure rfl rfl rfl (px_not rfl) ?_
     refine sa rfl rfl rfl rfl ?_
     refine wl_nil (q_n (k15 _ _ ?_))
     refine sx_retc ?_
     refine q_br (q_r (sx_ret1 Try.results124 rfl ?_))
     have hcd := cmpL_dg (r + r) d
     exact ⟨by rw [← hcd]; simp_all [awayB], (c3.t c5)⟩
    ·
     refine sx_seq fun K16 k16 => sx_region ?_
     refine sx_pure rfl rfl rfl (px_eq rfl rfl) ?_
     refine sa rfl rfl rfl rfl ?_
     refine wl_nil (q_n (k16 _ _ ?_))
     refine sx_condP rfl (fun h37 => ?_) (fun h37 => ?_)
     ·
      refine sx_seq fun K17 k17 => sx_region ?_
      refine sm rfl rfl rfl rfl ?_
      refine sx_pure rfl rfl rfl (px_gt rfl rfl) ?_
      refine sa rfl rfl rfl rfl ?_
      refine wl_nil (q_n (k17 _ _ ?_))
      refine sx_sub (Sub.cons (t := 1) rfl (.cons (t := 10) rfl (.cons (t := 11) rfl (.nil)))) ?_
      refine sx_retc ?_
      refine q_br (q_r (sx_ret1 Try.results124 rfl ?_))
      have hcd := cmpL_dg (r + r) d
      exact ⟨by rw [← hcd]; simp_all [awayB], (c3.t c5)⟩
     ·
      refine sx_seq fun K18 k18 => sx_region ?_
      refine sx_pure rfl rfl rfl (px_eq rfl rfl) ?_
      refine sa rfl rfl rfl rfl ?_
      refine wl_nil (q_n (k18 _ _ ?_))
      refine sx_sub (Sub.cons (t := 1) rfl (.cons (t := 10) rfl (.cons (t := 11) rfl (.cons (t := 33) rfl (.nil))))) ?_
      refine sx_condP rfl (fun h39 => ?_) (fun h39 => ?_)
      ·
       refine sx_seq fun K19 k19 => sx_region ?_
       refine sm rfl rfl rfl rfl ?_
       refine sx_pure rfl rfl rfl (px_ge rfl rfl) ?_
       refine sa rfl rfl rfl rfl ?_
       refine wl_nil (q_n (k19 _ _ ?_))
       refine sx_retc ?_
       refine q_br (q_r (sx_ret1 Try.results124 rfl ?_))
       have hcd := cmpL_dg (r + r) d
       exact ⟨by rw [← hcd]; simp_all [awayB], (c3.t c5)⟩
      ·
       refine sx_skip ?_
       refine q_bn (q_n (k6 _ _ ?_))
       refine sx_seq fun K20 k20 => sx_region ?_
       refine sm rfl rfl rfl rfl ?_
       refine sx_pure rfl rfl rfl (px_gt rfl rfl) ?_
       refine sm rfl rfl rfl rfl ?_
       refine sx_tmpP (t := 39) rfl (fun h42 => ?_) (fun h42 => ?_)
       ·
        refine sx_guardF rfl rfl rfl rfl rfl rfl ?_
        refine sx_guardF rfl rfl rfl rfl rfl rfl ?_
        refine sx_guardF rfl rfl rfl rfl rfl rfl ?_
        refine sx_guardFU rfl rfl rfl rfl rfl ?_
        refine sx_guardFU rfl rfl rfl rfl rfl ?_
        refine sx_guardFU rfl rfl rfl rfl rfl ?_
        refine sx_guardF rfl rfl rfl rfl rfl rfl ?_
        refine sx_pure rfl rfl rfl (px_pick rfl rfl) ?_
        refine sa rfl rfl rfl rfl ?_
        refine wl_nil (q_n (k20 _ _ ?_))
        refine sx_sub (Sub.cons (t := 10) rfl (.nil)) ?_
        refine sx_retc ?_
        refine sx_ret1 Try.results124 rfl ?_
        have hcd := cmpL_dg (r + r) d
        exact ⟨by rw [← hcd]; simp_all [awayB], (c3.t c5)⟩
       ·
        refine sx_guardT rfl rfl rfl ?_
        refine sm rfl rfl rfl rfl ?_
        refine sx_guardT rfl rfl rfl ?_
        refine sx_pure rfl rfl rfl (px_eq rfl rfl) ?_
        refine sx_guardT rfl rfl rfl ?_
        refine sm rfl rfl rfl rfl ?_
        refine sx_tmpP (t := 42) rfl (fun h42x1 => ?_) (fun h42x1 => ?_)
        ·
         refine sx_guardT rfl rfl rfl ?_
         refine sm rfl rfl rfl rfl ?_
         refine sx_guardT rfl rfl rfl ?_
         have f21 := hvq0.ext c3
         have f22 := f21.ext c5
         refine sx_call rfl rfl Try.call134 (c_sNatEven f22 (by omega)) (fun v23 w23 p23 => ?_)
         obtain ⟨rfl, c23⟩ := p23
         have zw23 := c23.size
         refine sx_guardT rfl rfl rfl ?_
         refine sx_pure rfl rfl rfl (px_notP rfl) ?_
         refine sx_guardT rfl rfl rfl ?_
         refine sx_pure rfl rfl rfl (px_pick rfl rfl) ?_
         refine sx_pure rfl rfl rfl (px_pick rfl rfl) ?_
         refine sa rfl rfl rfl rfl ?_
         refine wl_nil (q_n (k20 _ _ ?_))
         refine sx_sub (Sub.cons (t := 10) rfl (.nil)) ?_
         refine sx_retc ?_
         refine sx_ret1 Try.results124 rfl ?_
         have hcd := cmpL_dg (r + r) d
         exact ⟨by rw [← hcd]; simp_all [awayB], ((c3.t c5).t c23)⟩
        ·
         refine sx_guardF rfl rfl rfl rfl rfl rfl ?_
         refine sx_guardF rfl rfl rfl rfl rfl rfl ?_
         refine sx_guardF rfl rfl rfl rfl rfl rfl ?_
         refine sx_guardT rfl rfl rfl ?_
         refine sx_pure rfl rfl rfl (px_pick rfl rfl) ?_
         refine sx_pure rfl rfl rfl (px_pick rfl rfl) ?_
         refine sa rfl rfl rfl rfl ?_
         refine wl_nil (q_n (k20 _ _ ?_))
         refine sx_sub (Sub.cons (t := 10) rfl (.nil)) ?_
         refine sx_retc ?_
         refine sx_ret1 Try.results124 rfl ?_
         have hcd := cmpL_dg (r + r) d
         exact ⟨by rw [← hcd]; simp_all [awayB], (c3.t c5)⟩

theorem c_l06Round {w : World} {va : Value} {lva uva : Nat} {x : Int} {vd : Value} {lvd uvd : Nat} {d : Nat} {m : Int} (hva : Sl w lva uva va (dg x.natAbs)) (hvd : Sl w lvd uvd vd (dg d)) (hbx : (dg x.natAbs).length ≤ 49) (hbd : (dg d).length ≤ 390) (hd0 : 0 < d) (hm : 0 ≤ m ∧ m ≤ 6) :
  Ret Try.prog 100 [.agg #[.bool (ng x), va, vd], .int .i64 m] w fun v w' => ∃ s, v = .agg #[.bool (ng (rqI x d m)), s] ∧ OwnI w' w.heap.size w'.heap.size s intT (dg (rqI x d m).natAbs) ∧ Chg 0 0 w w' := by
 have hva0 := hva.fit
 have hvd0 := hvd.fit
 have lq := len_div x.natAbs d
 have lr := len_mod (m := x.natAbs) hd0
 have lrr := len_add (x.natAbs % d) (x.natAbs % d)
 refine sx_enter Try.func100 rfl Try.ntmps100 (Nat.le_of_ble_eq_true rfl) ?_
 refine sx_seq fun K1 k1 => sx_region ?_
 refine sx_box [.bool (ng x), va, vd] rfl rfl rfl (fun b2 w3 eb2 sb2 fb2 cb2 => ?_)
 have zw3 := cb2.size
 refine sx_alloc [.bool false, (.slice none 0 0)] rfl Try.zeroValue29 rfl (fun b4 w5 eb4 sb4 fb4 cb4 => ?_)
 have zw5 := cb4.size
 refine wl_nil (q_n (k1 _ _ ?_))
 refine sx_seq fun K6 k6 => sx_region ?_
 refine sx_pure rfl rfl rfl (px_field rfl xfld53x0) ?_
 refine sx_pure rfl rfl rfl (px_field rfl xfld29x1) ?_
 have f7 := fb2.ext cb4
 refine sx_pure rfl rfl rfl (px_load rfl (f7.load1 rfl Try.isAgg22)) ?_
 refine sx_pure rfl rfl rfl (px_field rfl xfld53x1) ?_
 refine sx_pure rfl rfl rfl (px_load rfl (f7.load1 rfl Try.isAgg22)) ?_
 have f8 := hva0.ext cb2
 have f9 := f8.ext cb4
 have f10 := hvd0.ext cb2
 have f11 := f10.ext cb4
 refine sx_call rfl rfl Try.call119 (c_l03Div f9 f11 (by omega) (by omega) (hd0)) (fun v12 w12 p12 => ?_)
 obtain ⟨s12, t12, rfl, os_12, ot_12, c12⟩ := p12
 have zw12 := c12.size
 refine sm rfl rfl rfl rfl ?_
 refine sx_pure rfl rfl rfl (px_extract (vs := [s12, t12]) rfl rfl) ?_
 refine sx_pure rfl rfl rfl (px_extract (vs := [s12, t12]) rfl rfl) ?_
 refine sa rfl rfl rfl rfl ?_
 refine sa rfl rfl rfl rfl ?_
 refine wl_nil (q_n (k6 _ _ ?_))
 refine sx_sub (Sub.cons (t := 1) rfl (.cons (t := 2) rfl (.cons (t := 4) rfl (.cons (t := 5) rfl (.cons (t := 6) rfl (.nil)))))) ?_
 refine sx_seq fun K13 k13 => ?_
 refine sx_seq fun K14 k14 => sx_region ?_
 refine sm rfl rfl rfl rfl ?_
 refine sx_pure rfl rfl rfl (px_len rfl Try.underlying22 ot_12) ?_
 refine sx_pure rfl rfl rfl (px_gt rfl rfl) ?_
 refine sm rfl rfl rfl rfl ?_
 refine sx_tmpP (t := 19) rfl (fun h47 => ?_) (fun h47 => ?_)
 ·
  refine sx_guardT rfl rfl rfl ?_
  refine sx_pure rfl rfl rfl (px_field rfl xfld53x0) ?_
  refine sx_guardT rfl rfl rfl ?_
  refine sx_pure rfl rfl rfl (px_field rfl xfld29x0) ?_
  refine sx_guardT rfl rfl rfl ?_
  have f15 := f7.ext c12
  refine sx_pure rfl rfl rfl (px_load rfl (f15.load1 rfl Try.isAgg4)) ?_
  refine sx_guardT rfl rfl rfl ?_
  refine sm rfl rfl rfl rfl ?_
  refine sx_guardT rfl rfl rfl ?_
  refine sm rfl rfl rfl rfl ?_
  refine sx_guardT rfl rfl rfl ?_
  refine sx_pure rfl rfl rfl (px_field rfl xfld53x1) ?_
  refine sx_guardT rfl rfl rfl ?_
  refine sx_pure rfl rfl rfl (px_load rfl (f15.load1 rfl Try.isAgg22)) ?_
  refine sx_guardT rfl rfl rfl ?_
  refine sm rfl rfl rfl rfl ?_
  refine sx_guardT rfl rfl rfl ?_
  have f16 := f11.ext c12
  refine sx_call rfl rfl Try.call124 (c_l06Away os_12 ot_12 f16 (by omega) (by omega) (by omega) (by omega)) (fun v17 w17 p17 => ?_)
  obtain ⟨rfl, c17⟩ := p17
  have zw17 := c17.size
  refine sx_pure rfl rfl rfl (px_pick rfl rfl) ?_
  refine wl_nil (q_n (k14 _ _ ?_))
  refine sx_sub (Sub.cons (t := 2) rfl (.cons (t := 4) rfl (.cons (t := 5) rfl (.cons (t := 29) rfl (.nil))))) ?_
  refine sx_condB rfl (fun h47x1 => ?_) (fun h47x1 => ?_)
  ·
   try rw [cmpL_dg] at h47x1
   try simp only [Decidable.not_not] at h47x1
   have e := rq_up (x := x) (d := d) (m := m) (len_pos.1 (by omega)) h47x1
   refine sx_region ?_
   refine sm rfl rfl rfl rfl ?_
   refine sx_lit1 rfl xelt22 rfl rfl (fun s18 ws18 ss18 fs18 cs18 => ?_)
   have ns18 := Own.norm (f := (Value.int .i64)) (zs := [1]) fs18
   have zws18 := cs18.size
   have f19 := os_12.ext c17
   have f20 := f19.ext cs18
   refine sx_call rfl rfl Try.call125 (c_l02Add1 f20 ns18.sv (by omega) (rfl)) (fun v21 w21 p21 => ?_)
   obtain ⟨s21, rfl, os_21, c21⟩ := p21
   have zw21 := c21.size
   refine sa rfl rfl rfl rfl ?_
   refine wl_nil (q_n (k13 _ _ ?_))
   refine sx_seq fun K22 k22 => sx_region ?_
   refine sx_pure rfl rfl rfl (px_field rfl xfld53x0) ?_
   refine sx_pure rfl rfl rfl (px_field rfl xfld29x0) ?_
   have f23 := f15.ext c17
   have f24 := f23.ext cs18
   have f25 := f24.ext c21
   refine sx_pure rfl rfl rfl (px_load rfl (f25.load1 rfl Try.isAgg4)) ?_
   refine sm rfl rfl rfl rfl ?_
   refine sx_call rfl rfl Try.call106 (c_l04Make os_21 (by rw [← e]; exact Nat.le_trans (rq_len hbx) (by omega))) (fun v26 w26 p26 => ?_)
   obtain ⟨s26, rfl, os_26, c26⟩ := p26
   have zw26 := c26.size
   have f28 := fb4.ext c12
   have f29 := f28.ext c17
   have f30 := f29.ext cs18
   have f31 := f30.ext c21
   have f32 := f31.ext c26
   refine sx_store (vs := [.bool (ng (capI (ng x) ((x.natAbs / d) + 1))), s26]) rfl rfl f32 rfl Try.sizeOf29 (Nat.le_of_ble_eq_true rfl) (one_cons rfl (one_cons os_26.one one_nil)) (fun w27 sw27 fw27 cw27 => ?_)
   have zw27 := cw27.size
   have gw27 : Blk w27 b4 [.bool (ng (capI (ng x) ((x.natAbs / d) + 1))), s26] 29 := fw27
   refine wl_nil (q_n (k22 _ _ ?_))
   refine sx_retc ?_
   refine sx_ret1 Try.results100 ⟨_, rfl, gw27.loadA (vs := [.bool (ng (capI (ng x) ((x.natAbs / d) + 1))), s26]) (look_lit rfl) Try.isAgg29 Try.sizeOf29⟩ ?_
   have hcs : capI (ng x) ((x.natAbs / d) + 1) = rqI x d m := by rw [capI_sgI (by rw [← e]; exact rq_len hbx), ← e]; rfl
   rw [← hcs]
   have q33 := Chg.step (l := 0) (h := 0) (Chg.zero (l := 0) (h := 0) ((((((cb2.t cb4).t c12).t c17).t cs18).t c21).t c26)) cw27 (by omega)
   have f34 := os_26.chg cw27 (by omega)
   exact ⟨_, rfl, (Own.mono f34 (by omega) (by omega)), q33⟩
  ·
   try rw [cmpL_dg] at h47x1
   try simp only [Decidable.not_not] at h47x1
   have e := rq_dn (x := x) (d := d) (m := m) (fun hh => by have h9 := hh.2; rw [h47x1] at h9; cases h9)
   refine sx_skip ?_
   refine q_n (k13 _ _ ?_)
   refine sx_seq fun K35 k35 => sx_region ?_
   refine sx_pure rfl rfl rfl (px_field rfl xfld53x0) ?_
   refine sx_pure rfl rfl rfl (px_field rfl xfld29x0) ?_
   have f36 := f15.ext c17
   refine sx_pure rfl rfl rfl (px_load rfl (f36.load1 rfl Try.isAgg4)) ?_
   refine sm rfl rfl rfl rfl ?_
   have f37 := os_12.ext c17
   refine sx_call rfl rfl Try.call106 (c_l04Make f37 (by rw [← e]; exact Nat.le_trans (rq_len hbx) (by omega))) (fun v38 w38 p38 => ?_)
   obtain ⟨s38, rfl, os_38, c38⟩ := p38
   have zw38 := c38.size
   have f40 := fb4.ext c12
   have f41 := f40.ext c17
   have f42 := f41.ext c38
   refine sx_store (vs := [.bool (ng (capI (ng x) (x.natAbs / d))), s38]) rfl rfl f42 rfl Try.sizeOf29 (Nat.le_of_ble_eq_true rfl) (one_cons rfl (one_cons os_38.one one_nil)) (fun w39 sw39 fw39 cw39 => ?_)
   have zw39 := cw39.size
   have gw39 : Blk w39 b4 [.bool (ng (capI (ng x) (x.natAbs / d))), s38] 29 := fw39
   refine wl_nil (q_n (k35 _ _ ?_))
   refine sx_retc ?_
   refine sx_ret1 Try.results100 ⟨_, rfl, gw39.loadA (vs := [.bool (ng (capI (ng x) (x.natAbs / d))), s38]) (look_lit rfl) Try.isAgg29 Try.sizeOf29⟩ ?_
   have hcs : capI (ng x) (x.natAbs / d) = rqI x d m := by rw [capI_sgI (by rw [← e]; exact rq_len hbx), ← e]; rfl
   rw [← hcs]
   have q43 := Chg.step (l := 0) (h := 0) (Chg.zero (l := 0) (h := 0) ((((cb2.t cb4).t c12).t c17).t c38)) cw39 (by omega)
   have f44 := os_38.chg cw39 (by omega)
   exact ⟨_, rfl, (Own.mono f44 (by omega) (by omega)), q43⟩
 ·
  have e := rq_dn (x := x) (d := d) (m := m) (fun hh => by have h9 := len_pos.2 hh.1; omega)
  refine sx_guardF rfl rfl rfl rfl rfl rfl ?_
  refine sx_guardF rfl rfl rfl rfl rfl rfl ?_
  refine sx_guardF rfl rfl rfl rfl rfl rfl ?_
  refine sx_guardF rfl rfl rfl rfl rfl rfl ?_
  refine sx_guardF rfl rfl rfl rfl rfl rfl ?_
  refine sx_guardF rfl rfl rfl rfl rfl rfl ?_
  refine sx_guardF rfl rfl rfl rfl rfl rfl ?_
  refine sx_guardF rfl rfl rfl rfl rfl rfl ?_
  refine sx_guardF rfl rfl rfl rfl rfl rfl ?_
  refine sx_pure rfl rfl rfl (px_pick rfl rfl) ?_
  refine wl_nil (q_n (k14 _ _ ?_))
  refine sx_sub (Sub.cons (t := 2) rfl (.cons (t := 4) rfl (.cons (t := 5) rfl (.cons (t := 29) rfl (.nil))))) ?_
  refine sx_condF rfl ?_
  refine sx_skip ?_
  refine q_n (k13 _ _ ?_)
  refine sx_seq fun K45 k45 => sx_region ?_
  refine sx_pure rfl rfl rfl (px_field rfl xfld53x0) ?_
  refine sx_pure rfl rfl rfl (px_field rfl xfld29x0) ?_
  have f46 := f7.ext c12
  refine sx_pure rfl rfl rfl (px_load rfl (f46.load1 rfl Try.isAgg4)) ?_
  refine sm rfl rfl rfl rfl ?_
  refine sx_call rfl rfl Try.call106 (c_l04Make os_12 (by rw [← e]; exact Nat.le_trans (rq_len hbx) (by omega))) (fun v47 w47 p47 => ?_)
  obtain ⟨s47, rfl, os_47, c47⟩ := p47
  have zw47 := c47.size
  have f49 := fb4.ext c12
  have f50 := f49.ext c47
  refine sx_store (vs := [.bool (ng (capI (ng x) (x.natAbs / d))), s47]) rfl rfl f50 rfl Try.sizeOf29 (Nat.le_of_ble_eq_true rfl) (one_cons rfl (one_cons os_47.one one_nil)) (fun w48 sw48 fw48 cw48 => ?_)
  have zw48 := cw48.size
  have gw48 : Blk w48 b4 [.bool (ng (capI (ng x) (x.natAbs / d))), s47] 29 := fw48
  refine wl_nil (q_n (k45 _ _ ?_))
  refine sx_retc ?_
  refine sx_ret1 Try.results100 ⟨_, rfl, gw48.loadA (vs := [.bool (ng (capI (ng x) (x.natAbs / d))), s47]) (look_lit rfl) Try.isAgg29 Try.sizeOf29⟩ ?_
  have hcs : capI (ng x) (x.natAbs / d) = rqI x d m := by rw [capI_sgI (by rw [← e]; exact rq_len hbx), ← e]; rfl
  rw [← hcs]
  have q51 := Chg.step (l := 0) (h := 0) (Chg.zero (l := 0) (h := 0) (((cb2.t cb4).t c12).t c47)) cw48 (by omega)
  have f52 := os_47.chg cw48 (by omega)
  exact ⟨_, rfl, (Own.mono f52 (by omega) (by omega)), q51⟩

theorem c_sRatRound {w : World} {n1 : Bool} {v1 : Value} {lv1 uv1 : Nat} {z1 : List Int} {d1 : Value} {ld1 ud1 : Nat} {y1 : List Int} {m : Int} (hv1 : Sl w lv1 uv1 v1 (z1)) (hd1 : Sl w ld1 ud1 d1 (y1)) (h63 : z1.length ≤ 4611686018427387904 ∧ y1.length ≤ 4611686018427387904) :
  Ret Try.prog 56 [.agg #[.bool n1, v1, d1], .int .i64 m] w fun v w' => ∃ s, v = .tuple #[.agg #[.bool ((rRound n1 z1 y1 m).1), s], .bool ((rRound n1 z1 y1 m).2.2)] ∧ OwnI w' w.heap.size w'.heap.size s intT ((rRound n1 z1 y1 m).2.1) ∧ ((rRound n1 z1 y1 m).2.1.length ≤ 19) ∧ Chg 0 0 w w' := by
 have hv10 := hv1.fit
 have hd10 := hd1.fit
 refine sx_enter Try.func56 rfl Try.ntmps56 (Nat.le_of_ble_eq_true rfl) ?_
 refine sx_seq fun K1 k1 => sx_region ?_
 refine sx_box [.bool n1, v1, d1] rfl rfl rfl (fun b2 w3 eb2 sb2 fb2 cb2 => ?_)
 have zw3 := cb2.size
 refine sx_alloc [.bool false, (.slice none 0 0)] rfl Try.zeroValue29 rfl (fun b4 w5 eb4 sb4 fb4 cb4 => ?_)
 have zw5 := cb4.size
 refine sa rfl rfl rfl rfl ?_
 refine wl_nil (q_n (k1 _ _ ?_))
 refine sx_seq fun K6 k6 => ?_
 refine sx_seq fun K7 k7 => sx_region ?_
 have f8 := fb2.ext cb4
 refine sx_pure rfl rfl rfl (px_load rfl (f8.loadA (vs := [.bool n1, v1, d1]) (look_lit rfl) Try.isAgg53 Try.sizeOf53)) ?_
 have f9 := hv10.ext cb2
 have f10 := f9.ext cb4
 have f11 := hd10.ext cb2
 have f12 := f11.ext cb4
 refine sx_call rfl rfl Try.call75 (c_sRatOk f10 f12 (by omega)) (fun v13 w13 p13 => ?_)
 obtain ⟨rfl, c13⟩ := p13
 have zw13 := c13.size
 refine sx_pure rfl rfl rfl (px_notP rfl) ?_
 refine sm rfl rfl rfl rfl ?_
 refine sx_tmpP (t := 9) rfl (fun h55 => ?_) (fun h55 => ?_)
 ·
  refine sx_guardF rfl rfl rfl rfl rfl rfl ?_
  refine sx_guardF rfl rfl rfl rfl rfl rfl ?_
  refine sx_guardF rfl rfl rfl rfl rfl rfl ?_
  refine sx_pure rfl rfl rfl (px_pick rfl rfl) ?_
  refine wl_nil (q_n (k7 _ _ ?_))
  refine sx_condT rfl ?_
  refine sx_seq fun K14 k14 => sx_region ?_
  refine sx_pure rfl rfl rfl (px_build rfl (xbld29x  _)) ?_
  have f16 := fb4.ext c13
  refine sx_store (vs := [.bool false, (.slice none 0 0)]) rfl rfl f16 rfl Try.sizeOf29 (Nat.le_of_ble_eq_true rfl) (one_cons rfl (one_cons rfl one_nil)) (fun w15 sw15 fw15 cw15 => ?_)
  have zw15 := cw15.size
  have gw15 : Blk w15 b4 [.bool false, (.slice none 0 0)] 29 := fw15
  refine sa rfl rfl rfl rfl ?_
  refine wl_nil (q_n (k14 _ _ ?_))
  refine sx_retc ?_
  refine q_r (sx_ret2 Try.results56 ⟨_, rfl, gw15.loadA (vs := [.bool false, (.slice none 0 0)]) (look_lit rfl) Try.isAgg29 Try.sizeOf29⟩ rfl ?_)
  rw [rRound_no (by grind)]
  have q17 := Chg.step (l := 0) (h := 0) (Chg.zero (l := 0) (h := 0) ((cb2.t cb4).t c13)) cw15 (by omega)
  exact ⟨_, rfl, Own.nil _ _ _ _ _, by simp [noS], q17⟩
 ·
  refine sx_guardT rfl rfl rfl ?_
  refine sm rfl rfl rfl rfl ?_
  refine sx_guardT rfl rfl rfl ?_
  refine sx_call rfl rfl Try.call98 (c_l06Mode) (fun v18 w18 p18 => ?_)
  obtain ⟨rfl, c18⟩ := p18
  have zw18 := c18.size
  refine sx_guardT rfl rfl rfl ?_
  refine sx_pure rfl rfl rfl (px_notP rfl) ?_
  refine sx_pure rfl rfl rfl (px_pick rfl rfl) ?_
  refine wl_nil (q_n (k7 _ _ ?_))
  refine sx_condP rfl (fun h55x1 => ?_) (fun h55x1 => ?_)
  ·
   refine sx_seq fun K19 k19 => sx_region ?_
   refine sx_pure rfl rfl rfl (px_build rfl (xbld29x  _)) ?_
   have f21 := fb4.ext c13
   have f22 := f21.ext c18
   refine sx_store (vs := [.bool false, (.slice none 0 0)]) rfl rfl f22 rfl Try.sizeOf29 (Nat.le_of_ble_eq_true rfl) (one_cons rfl (one_cons rfl one_nil)) (fun w20 sw20 fw20 cw20 => ?_)
   have zw20 := cw20.size
   have gw20 : Blk w20 b4 [.bool false, (.slice none 0 0)] 29 := fw20
   refine sa rfl rfl rfl rfl ?_
   refine wl_nil (q_n (k19 _ _ ?_))
   refine sx_retc ?_
   refine q_r (sx_ret2 Try.results56 ⟨_, rfl, gw20.loadA (vs := [.bool false, (.slice none 0 0)]) (look_lit rfl) Try.isAgg29 Try.sizeOf29⟩ rfl ?_)
   rw [rRound_no (by grind)]
   have q23 := Chg.step (l := 0) (h := 0) (Chg.zero (l := 0) (h := 0) (((cb2.t cb4).t c13).t c18)) cw20 (by omega)
   exact ⟨_, rfl, Own.nil _ _ _ _ _, by simp [noS], q23⟩
  ·
   have hR := Decidable.not_not.1 h55
   have hM := Decidable.not_not.1 h55x1
   obtain ⟨x1, e1, rfl, rfl, rfl, he0, hx1, he1, hg1⟩ := hR.rat
   refine sx_skip ?_
   refine q_n (k6 _ _ ?_)
   refine sx_seq fun K24 k24 => sx_region ?_
   have f25 := f8.ext c13
   have f26 := f25.ext c18
   refine sx_pure rfl rfl rfl (px_load rfl (f26.loadA (vs := [.bool (ng x1), v1, d1]) (look_lit rfl) Try.isAgg53 Try.sizeOf53)) ?_
   refine sm rfl rfl rfl rfl ?_
   have f27 := f10.ext c13
   have f28 := f27.ext c18
   have f29 := f12.ext c13
   have f30 := f29.ext c18
   refine sx_call rfl rfl Try.call100 (c_l06Round f28 f30 (by omega) (by omega) (by omega) (by omega)) (fun v31 w31 p31 => ?_)
   obtain ⟨s31, rfl, os_31, c31⟩ := p31
   have zw31 := c31.size
   have f33 := fb4.ext c13
   have f34 := f33.ext c18
   have f35 := f34.ext c31
   refine sx_store (vs := [.bool (ng (rqI x1 e1 m)), s31]) rfl rfl f35 rfl Try.sizeOf29 (Nat.le_of_ble_eq_true rfl) (one_cons rfl (one_cons os_31.one one_nil)) (fun w32 sw32 fw32 cw32 => ?_)
   have zw32 := cw32.size
   have gw32 : Blk w32 b4 [.bool (ng (rqI x1 e1 m)), s31] 29 := fw32
   refine sa rfl rfl rfl rfl ?_
   refine wl_nil (q_n (k24 _ _ ?_))
   refine sx_sub (Sub.cons (t := 4) rfl (.cons (t := 5) rfl (.nil))) ?_
   refine sx_retc ?_
   refine sx_ret2 Try.results56 ⟨_, rfl, gw32.loadA (vs := [.bool (ng (rqI x1 e1 m)), s31]) (look_lit rfl) Try.isAgg29 Try.sizeOf29⟩ rfl ?_
   have hrl := rRound_len (n := ng x1) (z := dg x1.natAbs) (y := dg e1) (m := m)
   rw [rRound_ok ⟨hR, hM⟩] at hrl ⊢
   have q36 := Chg.step (l := 0) (h := 0) (Chg.zero (l := 0) (h := 0) ((((cb2.t cb4).t c13).t c18).t c31)) cw32 (by omega)
   have f37 := os_31.chg cw32 (by omega)
   exact ⟨_, rfl, (Own.mono f37 (by omega) (by omega)), hrl, q36⟩

theorem c_isMode {w : World} {m : Int} :
  Ret Try.prog 101 [.int .i64 m] w fun v w' => v = .bool (decide (0 ≤ m ∧ m ≤ 6)) ∧ Chg 0 0 w w' := by
 refine sx_enter Try.func101 rfl Try.ntmps101 (Nat.le_of_ble_eq_true rfl) ?_
 refine sx_seq fun K1 k1 => sx_region ?_
 refine sa rfl rfl rfl rfl ?_
 refine wl_nil (q_n (k1 _ _ ?_))
 refine sx_seq fun K2 k2 => sx_region ?_
 refine sm rfl rfl rfl rfl ?_
 refine sx_pure rfl rfl rfl (px_ge rfl rfl) ?_
 refine sm rfl rfl rfl rfl ?_
 refine sx_tmpP (t := 5) rfl (fun h34 => ?_) (fun h34 => ?_)
 ·
  refine sx_guardT rfl rfl rfl ?_
  refine sm rfl rfl rfl rfl ?_
  refine sx_guardT rfl rfl rfl ?_
  refine sx_pure rfl rfl rfl (px_le rfl rfl) ?_
  refine sx_pure rfl rfl rfl (px_pick rfl rfl) ?_
  refine sa rfl rfl rfl rfl ?_
  refine wl_nil (q_n (k2 _ _ ?_))
  refine sx_retc ?_
  refine sx_ret1 Try.results101 rfl ?_
  exact ⟨(by first | exact bTrue (by grind) | exact bFalse (by grind) | exact bIff (by grind)), (Chg.refl 0 0 _)⟩
 ·
  refine sx_guardF rfl rfl rfl rfl rfl rfl ?_
  refine sx_guardF rfl rfl rfl rfl rfl rfl ?_
  refine sx_pure rfl rfl rfl (px_pick rfl rfl) ?_
  refine sa rfl rfl rfl rfl ?_
  refine wl_nil (q_n (k2 _ _ ?_))
  refine sx_retc ?_
  refine sx_ret1 Try.results101 rfl ?_
  exact ⟨(by first | exact bTrue (by grind) | exact bFalse (by grind) | exact bIff (by grind)), (Chg.refl 0 0 _)⟩

theorem c_rm1 {w : World} {n : Bool} {c : Int} {o : Bool} :
  Ret Try.prog 135 [.bool n, .int .i64 c, .bool o] w fun v w' => v = .bool (awayB 0 n c o) ∧ Chg 0 0 w w' := by
 refine sx_enter Try.func135 rfl Try.ntmps135 (Nat.le_of_ble_eq_true rfl) ?_
 refine sx_seq fun K1 k1 => sx_region ?_
 refine sa rfl rfl rfl rfl ?_
 refine wl_nil (q_n (k1 _ _ ?_))
 refine sx_seq fun K2 k2 => sx_region ?_
 refine sa rfl rfl rfl rfl ?_
 refine wl_nil (q_n (k2 _ _ ?_))
 refine sx_retc ?_
 refine sx_ret1 Try.results135 rfl ?_
 exact ⟨(by first | rfl | (simp_all [awayB]; done) | grind [awayB]), (Chg.refl 0 0 _)⟩

theorem c_rm2 {w : World} {n : Bool} {c : Int} {o : Bool} :
  Ret Try.prog 136 [.bool n, .int .i64 c, .bool o] w fun v w' => v = .bool (awayB 1 n c o) ∧ Chg 0 0 w w' := by
 refine sx_enter Try.func136 rfl Try.ntmps136 (Nat.le_of_ble_eq_true rfl) ?_
 refine sx_seq fun K1 k1 => sx_region ?_
 refine sa rfl rfl rfl rfl ?_
 refine wl_nil (q_n (k1 _ _ ?_))
 refine sx_seq fun K2 k2 => sx_region ?_
 refine sa rfl rfl rfl rfl ?_
 refine wl_nil (q_n (k2 _ _ ?_))
 refine sx_retc ?_
 refine sx_ret1 Try.results136 rfl ?_
 exact ⟨(by first | rfl | (simp_all [awayB]; done) | grind [awayB]), (Chg.refl 0 0 _)⟩

theorem c_rm3 {w : World} {n : Bool} {c : Int} {o : Bool} :
  Ret Try.prog 137 [.bool n, .int .i64 c, .bool o] w fun v w' => v = .bool (awayB 2 n c o) ∧ Chg 0 0 w w' := by
 refine sx_enter Try.func137 rfl Try.ntmps137 (Nat.le_of_ble_eq_true rfl) ?_
 refine sx_seq fun K1 k1 => sx_region ?_
 refine sa rfl rfl rfl rfl ?_
 refine wl_nil (q_n (k1 _ _ ?_))
 refine sx_seq fun K2 k2 => sx_region ?_
 refine sm rfl rfl rfl rfl ?_
 refine sa rfl rfl rfl rfl ?_
 refine wl_nil (q_n (k2 _ _ ?_))
 refine sx_retc ?_
 refine sx_ret1 Try.results137 rfl ?_
 exact ⟨(by first | rfl | (simp_all [awayB]; done) | grind [awayB]), (Chg.refl 0 0 _)⟩

theorem c_rm4 {w : World} {n : Bool} {c : Int} {o : Bool} :
  Ret Try.prog 138 [.bool n, .int .i64 c, .bool o] w fun v w' => v = .bool (awayB 3 n c o) ∧ Chg 0 0 w w' := by
 refine sx_enter Try.func138 rfl Try.ntmps138 (Nat.le_of_ble_eq_true rfl) ?_
 refine sx_seq fun K1 k1 => sx_region ?_
 refine sa rfl rfl rfl rfl ?_
 refine wl_nil (q_n (k1 _ _ ?_))
 refine sx_seq fun K2 k2 => sx_region ?_
 refine sm rfl rfl rfl rfl ?_
 refine sx_pure rfl rfl rfl (px_not rfl) ?_
 refine sa rfl rfl rfl rfl ?_
 refine wl_nil (q_n (k2 _ _ ?_))
 refine sx_retc ?_
 refine sx_ret1 Try.results138 rfl ?_
 exact ⟨(by first | rfl | (simp_all [awayB]; done) | grind [awayB]), (Chg.refl 0 0 _)⟩

theorem c_rm5 {w : World} {n : Bool} {c : Int} {o : Bool} :
  Ret Try.prog 139 [.bool n, .int .i64 c, .bool o] w fun v w' => v = .bool (awayB 4 n c o) ∧ Chg 0 0 w w' := by
 refine sx_enter Try.func139 rfl Try.ntmps139 (Nat.le_of_ble_eq_true rfl) ?_
 refine sx_seq fun K1 k1 => sx_region ?_
 refine sa rfl rfl rfl rfl ?_
 refine wl_nil (q_n (k1 _ _ ?_))
 refine sx_seq fun K2 k2 => sx_region ?_
 refine sm rfl rfl rfl rfl ?_
 refine sx_pure rfl rfl rfl (px_gt rfl rfl) ?_
 refine sa rfl rfl rfl rfl ?_
 refine wl_nil (q_n (k2 _ _ ?_))
 refine sx_retc ?_
 refine sx_ret1 Try.results139 rfl ?_
 exact ⟨(by first | rfl | (simp_all [awayB]; done) | grind [awayB]), (Chg.refl 0 0 _)⟩

theorem c_rm6 {w : World} {n : Bool} {c : Int} {o : Bool} :
  Ret Try.prog 140 [.bool n, .int .i64 c, .bool o] w fun v w' => v = .bool (awayB 5 n c o) ∧ Chg 0 0 w w' := by
 refine sx_enter Try.func140 rfl Try.ntmps140 (Nat.le_of_ble_eq_true rfl) ?_
 refine sx_seq fun K1 k1 => sx_region ?_
 refine sa rfl rfl rfl rfl ?_
 refine wl_nil (q_n (k1 _ _ ?_))
 refine sx_seq fun K2 k2 => sx_region ?_
 refine sm rfl rfl rfl rfl ?_
 refine sx_pure rfl rfl rfl (px_ge rfl rfl) ?_
 refine sa rfl rfl rfl rfl ?_
 refine wl_nil (q_n (k2 _ _ ?_))
 refine sx_retc ?_
 refine sx_ret1 Try.results140 rfl ?_
 exact ⟨(by first | rfl | (simp_all [awayB]; done) | grind [awayB]), (Chg.refl 0 0 _)⟩

theorem c_rm7 {w : World} {n : Bool} {c : Int} {o : Bool} :
  Ret Try.prog 141 [.bool n, .int .i64 c, .bool o] w fun v w' => v = .bool (awayB 6 n c o) ∧ Chg 0 0 w w' := by
 refine sx_enter Try.func141 rfl Try.ntmps141 (Nat.le_of_ble_eq_true rfl) ?_
 refine sx_seq fun K1 k1 => sx_region ?_
 refine sa rfl rfl rfl rfl ?_
 refine wl_nil (q_n (k1 _ _ ?_))
 refine sx_seq fun K2 k2 => sx_region ?_
 refine sm rfl rfl rfl rfl ?_
 refine sx_pure rfl rfl rfl (px_gt rfl rfl) ?_
 refine sm rfl rfl rfl rfl ?_
 refine sx_tmpP (t := 9) rfl (fun h29 => ?_) (fun h29 => ?_)
 ·
  refine sx_guardF rfl rfl rfl rfl rfl rfl ?_
  refine sx_guardF rfl rfl rfl rfl rfl rfl ?_
  refine sx_guardF rfl rfl rfl rfl rfl rfl ?_
  refine sx_guardFU rfl rfl rfl rfl rfl ?_
  refine sx_guardF rfl rfl rfl rfl rfl rfl ?_
  refine sx_pure rfl rfl rfl (px_pick rfl rfl) ?_
  refine sa rfl rfl rfl rfl ?_
  refine wl_nil (q_n (k2 _ _ ?_))
  refine sx_retc ?_
  refine sx_ret1 Try.results141 rfl ?_
  exact ⟨(by first | rfl | (simp_all [awayB]; done) | grind [awayB]), (Chg.refl 0 0 _)⟩
 ·
  refine sx_guardT rfl rfl rfl ?_
  refine sm rfl rfl rfl rfl ?_
  refine sx_guardT rfl rfl rfl ?_
  refine sx_pure rfl rfl rfl (px_eq rfl rfl) ?_
  refine sx_guardT rfl rfl rfl ?_
  refine sm rfl rfl rfl rfl ?_
  refine sx_tmpP (t := 12) rfl (fun h29x1 => ?_) (fun h29x1 => ?_)
  ·
   refine sx_guardT rfl rfl rfl ?_
   refine sm rfl rfl rfl rfl ?_
   refine sx_guardT rfl rfl rfl ?_
   refine sx_pure rfl rfl rfl (px_pick rfl rfl) ?_
   refine sx_pure rfl rfl rfl (px_pick rfl rfl) ?_
   refine sa rfl rfl rfl rfl ?_
   refine wl_nil (q_n (k2 _ _ ?_))
   refine sx_retc ?_
   refine sx_ret1 Try.results141 rfl ?_
   exact ⟨(by first | rfl | (simp_all [awayB]; done) | grind [awayB]), (Chg.refl 0 0 _)⟩
  ·
   refine sx_guardF rfl rfl rfl rfl rfl rfl ?_
   refine sx_guardT rfl rfl rfl ?_
   refine sx_pure rfl rfl rfl (px_pick rfl rfl) ?_
   refine sx_pure rfl rfl rfl (px_pick rfl rfl) ?_
   refine sa rfl rfl rfl rfl ?_
   refine wl_nil (q_n (k2 _ _ ?_))
   refine sx_retc ?_
   refine sx_ret1 Try.results141 rfl ?_
   exact ⟨(by first | rfl | (simp_all [awayB]; done) | grind [awayB]), (Chg.refl 0 0 _)⟩

theorem c_away {w : World} {n o : Bool} {c m : Int} (hm : 0 ≤ m ∧ m ≤ 6) :
  Ret Try.prog (rmF m) [.bool n, .int .i64 c, .bool o] w fun v w' => v = .bool (awayB m n c o) ∧ Chg 0 0 w w' := by
 rcases rm_cases hm with h | h | h | h | h | h | h
 · subst h; exact c_rm1
 · subst h; exact c_rm2
 · subst h; exact c_rm3
 · subst h; exact c_rm4
 · subst h; exact c_rm5
 · subst h; exact c_rm6
 · subst h; exact c_rm7

theorem c_roundModes {w : World} :
  Ret Try.prog 126 [] w fun v w' => v = .agg #[.string ⟨#[100, 111, 119, 110]⟩, .func (.func 135) #[] #[], .string ⟨#[117, 112]⟩, .func (.func 136) #[] #[], .string ⟨#[102, 108, 111, 111, 114]⟩, .func (.func 137) #[] #[], .string ⟨#[99, 101, 105, 108]⟩, .func (.func 138) #[] #[], .string ⟨#[104, 97, 108, 102, 100, 111, 119, 110]⟩, .func (.func 139) #[] #[], .string ⟨#[104, 97, 108, 102, 117, 112]⟩, .func (.func 140) #[] #[], .string ⟨#[104, 97, 108, 102, 101, 118, 101, 110]⟩, .func (.func 141) #[] #[]] ∧ Chg 0 0 w w' := by
 refine sx_enter Try.func126 rfl Try.ntmps126 (Nat.le_of_ble_eq_true rfl) ?_
 refine sx_seq fun K1 k1 => sx_region ?_
 refine sx_alloc [.string (⟨#[]⟩), .nilFunc, .string (⟨#[]⟩), .nilFunc, .string (⟨#[]⟩), .nilFunc, .string (⟨#[]⟩), .nilFunc, .string (⟨#[]⟩), .nilFunc, .string (⟨#[]⟩), .nilFunc, .string (⟨#[]⟩), .nilFunc] rfl Try.zeroValue107 rfl (fun b2 w3 eb2 sb2 fb2 cb2 => ?_)
 have zw3 := cb2.size
 refine wl_nil (q_n (k1 _ _ ?_))
 refine sx_seq fun K4 k4 => sx_region ?_
 refine sx_pure rfl rfl rfl (px_build rfl (xbld106x0x1 rfl rfl _)) ?_
 refine sx_pure rfl rfl rfl (px_build rfl (xbld106x0x1 rfl rfl _)) ?_
 refine sx_pure rfl rfl rfl (px_build rfl (xbld106x0x1 rfl rfl _)) ?_
 refine sx_pure rfl rfl rfl (px_build rfl (xbld106x0x1 rfl rfl _)) ?_
 refine sx_pure rfl rfl rfl (px_build rfl (xbld106x0x1 rfl rfl _)) ?_
 refine sx_pure rfl rfl rfl (px_build rfl (xbld106x0x1 rfl rfl _)) ?_
 refine sx_pure rfl rfl rfl (px_build rfl (xbld106x0x1 rfl rfl _)) ?_
 refine sx_pure rfl rfl rfl (px_build rfl (xbld107x0x1x2x3x4x5x6 _)) ?_
 refine sx_store (vs := [.string (⟨#[100, 111, 119, 110]⟩), .func (.func 135) #[] #[], .string (⟨#[117, 112]⟩), .func (.func 136) #[] #[], .string (⟨#[102, 108, 111, 111, 114]⟩), .func (.func 137) #[] #[], .string (⟨#[99, 101, 105, 108]⟩), .func (.func 138) #[] #[], .string (⟨#[104, 97, 108, 102, 100, 111, 119, 110]⟩), .func (.func 139) #[] #[], .string (⟨#[104, 97, 108, 102, 117, 112]⟩), .func (.func 140) #[] #[], .string (⟨#[104, 97, 108, 102, 101, 118, 101, 110]⟩), .func (.func 141) #[] #[]]) rfl rfl fb2 rfl Try.sizeOf107 (Nat.le_of_ble_eq_true rfl) (one_cons rfl (one_cons rfl (one_cons rfl (one_cons rfl (one_cons rfl (one_cons rfl (one_cons rfl (one_cons rfl (one_cons rfl (one_cons rfl (one_cons rfl (one_cons rfl (one_cons rfl (one_cons rfl one_nil)))))))))))))) (fun w5 sw5 fw5 cw5 => ?_)
 have zw5 := cw5.size
 have gw5 : Blk w5 b2 [.string (⟨#[100, 111, 119, 110]⟩), .func (.func 135) #[] #[], .string (⟨#[117, 112]⟩), .func (.func 136) #[] #[], .string (⟨#[102, 108, 111, 111, 114]⟩), .func (.func 137) #[] #[], .string (⟨#[99, 101, 105, 108]⟩), .func (.func 138) #[] #[], .string (⟨#[104, 97, 108, 102, 100, 111, 119, 110]⟩), .func (.func 139) #[] #[], .string (⟨#[104, 97, 108, 102, 117, 112]⟩), .func (.func 140) #[] #[], .string (⟨#[104, 97, 108, 102, 101, 118, 101, 110]⟩), .func (.func 141) #[] #[]] 107 := fw5
 refine wl_nil (q_n (k4 _ _ ?_))
 refine sx_retc ?_
 refine sx_ret1 Try.results126 ⟨_, rfl, gw5.loadA (vs := [.string (⟨#[100, 111, 119, 110]⟩), .func (.func 135) #[] #[], .string (⟨#[117, 112]⟩), .func (.func 136) #[] #[], .string (⟨#[102, 108, 111, 111, 114]⟩), .func (.func 137) #[] #[], .string (⟨#[99, 101, 105, 108]⟩), .func (.func 138) #[] #[], .string (⟨#[104, 97, 108, 102, 100, 111, 119, 110]⟩), .func (.func 139) #[] #[], .string (⟨#[104, 97, 108, 102, 117, 112]⟩), .func (.func 140) #[] #[], .string (⟨#[104, 97, 108, 102, 101, 118, 101, 110]⟩), .func (.func 141) #[] #[]]) (look_lit rfl) Try.isAgg107 Try.sizeOf107⟩ ?_
 have q6 := Chg.step (l := 0) (h := 0) (Chg.zero (l := 0) (h := 0) cb2) cw5 (by omega)
 exact ⟨rfl, q6⟩

theorem c_natAdd1 {w : World} {va : Value} {lva uva : Nat} {m : Nat} {vb : Value} {lvb uvb : Nat} {ys : List Int} (hva : Sl w lva uva va (dg m)) (hvb : Sl w lvb uvb vb (ys)) (hbm : (dg m).length ≤ 1000) (hy : ys = [1]) :
  Ret Try.prog 112 [va, vb] w fun v w' => ∃ s, v = s ∧ OwnI w' w.heap.size w'.heap.size s intT (dg (m + 1)) ∧ Chg 0 0 w w' := by
 rw [hy, ← dg_1] at hvb; exact c_natAdd hva hvb hbm (by rw [dg_1]; simp)

theorem c_iNatEven {w : World} {va : Value} {lva uva : Nat} {m : Nat} (hva : Sl w lva uva va (dg m)) (hbm : (dg m).length ≤ 50) :
  Ret Try.prog 127 [va] w fun v w' => v = .bool (decide (¬ m % 2 = 1)) ∧ Chg 0 0 w w' := by
 have hva0 := hva.fit
 refine sx_enter Try.func127 rfl Try.ntmps127 (Nat.le_of_ble_eq_true rfl) ?_
 refine sx_seq fun K1 k1 => sx_region ?_
 refine sa rfl rfl rfl rfl ?_
 refine wl_nil (q_n (k1 _ _ ?_))
 refine sx_seq fun K2 k2 => sx_region ?_
 refine sm rfl rfl rfl rfl ?_
 refine sx_call rfl rfl Try.call104 (c_iNatOk hva0 (by omega)) (fun v3 w3 p3 => ?_)
 obtain ⟨rfl, c3⟩ := p3
 have zw3 := c3.size
 refine sm rfl rfl rfl rfl ?_
 have h151 : NOk (dg m) := NOk_dg (by omega)
 refine sx_tmpPT (t := 5) rfl h151 ?_
 refine sx_guardT rfl rfl rfl ?_
 refine sm rfl rfl rfl rfl ?_
 refine sx_guardT rfl rfl rfl ?_
 have f4 := hva0.ext c3
 refine sx_pure rfl rfl rfl (px_len rfl Try.underlying22 f4) ?_
 refine sx_guardT rfl rfl rfl ?_
 refine sx_pure rfl rfl rfl (px_eq rfl rfl) ?_
 refine sx_guardT rfl rfl rfl ?_
 refine sm rfl rfl rfl rfl ?_
 refine sx_tmpP (t := 9) rfl (fun h151x1 => ?_) (fun h151x1 => ?_)
 ·
  refine sx_guardF rfl rfl rfl rfl rfl rfl ?_
  refine sx_guardF rfl rfl rfl rfl rfl rfl ?_
  refine sx_guardF rfl rfl rfl rfl rfl rfl ?_
  refine sx_guardF rfl rfl rfl rfl rfl rfl ?_
  refine sx_guardF rfl rfl rfl rfl rfl rfl ?_
  refine sx_guardT rfl rfl rfl ?_
  refine sx_pure rfl rfl rfl (px_pick rfl rfl) ?_
  refine sx_pure rfl rfl rfl (px_pick rfl rfl) ?_
  refine sa rfl rfl rfl rfl ?_
  refine wl_nil (q_n (k2 _ _ ?_))
  refine sx_sub (Sub.cons (t := 2) rfl (.nil)) ?_
  refine sx_retc ?_
  refine sx_ret1 Try.results127 rfl ?_
  exact ⟨(by have hk := odd_dg (q := m); first | exact bTrue (hk.1 (.inl (by omega))) | exact bIff ⟨fun h => hk.1 (.inr h), fun h => (hk.2 h).resolve_left (by omega)⟩), c3⟩
 ·
  refine sx_guardT rfl rfl rfl ?_
  refine sm rfl rfl rfl rfl ?_
  refine sx_guardT rfl rfl rfl ?_
  refine sx_pure rfl rfl rfl (px_index1 (j := 0) rfl rfl (by omega) Try.underlying22 Try.sizeOf3 f4 (by omega)) ?_
  refine sx_guardT rfl rfl rfl ?_
  refine sx_pure rfl rfl rfl (px_load rfl (f4.load1 (at_int (by omega)) Try.isAgg3)) ?_
  refine sx_guardT rfl rfl rfl ?_
  refine sx_pure rfl rfl rfl (px_rem rfl rfl (by have := (Lm_dg m).getD 0; omega) (by omega)) ?_
  refine sx_guardT rfl rfl rfl ?_
  refine sx_pure rfl rfl rfl (px_eq rfl rfl) ?_
  refine sx_guardT rfl rfl rfl ?_
  refine sx_pure rfl rfl rfl (px_pick rfl rfl) ?_
  refine sx_pure rfl rfl rfl (px_pick rfl rfl) ?_
  refine sa rfl rfl rfl rfl ?_
  refine wl_nil (q_n (k2 _ _ ?_))
  refine sx_sub (Sub.cons (t := 2) rfl (.nil)) ?_
  refine sx_retc ?_
  refine sx_ret1 Try.results127 rfl ?_
  exact ⟨(by have hk := odd_dg (q := m); first | exact bTrue (hk.1 (.inl (by omega))) | exact bIff ⟨fun h => hk.1 (.inr h), fun h => (hk.2 h).resolve_left (by omega)⟩), c3⟩

theorem c_roundQuotient {w : World} {va : Value} {lva uva : Nat} {x : Int} {vb : Value} {lvb uvb : Nat} {d : Nat} {m : Int} (hva : Sl w lva uva va (dg x.natAbs)) (hvb : Sl w lvb uvb vb (dg d)) (hbx : (dg x.natAbs).length ≤ 49) (hbd : (dg d).length ≤ 390) (hd0 : 0 < d) (hm : 0 ≤ m ∧ m ≤ 6) :
  Ret Try.prog 102 [.agg #[.bool (ng x), va], vb, .int .i64 m] w fun v w' => ∃ s, v = .agg #[.bool (ng (rqI x d m)), s] ∧ OwnI w' w.heap.size w'.heap.size s intT (dg (rqI x d m).natAbs) ∧ Chg 0 0 w w' := by
 have hva0 := hva.fit
 have hvb0 := hvb.fit
 have lq := len_div x.natAbs d
 have lr := len_mod (m := x.natAbs) hd0
 have lrr := len_add (x.natAbs % d) (x.natAbs % d)
 refine sx_enter Try.func102 rfl Try.ntmps102 (Nat.le_of_ble_eq_true rfl) ?_
 refine sx_seq fun K1 k1 => sx_region ?_
 refine sx_box [.bool (ng x), va] rfl rfl rfl (fun b2 w3 eb2 sb2 fb2 cb2 => ?_)
 have zw3 := cb2.size
 refine sx_alloc [.bool false, (.slice none 0 0)] rfl Try.zeroValue29 rfl (fun b4 w5 eb4 sb4 fb4 cb4 => ?_)
 have zw5 := cb4.size
 refine wl_nil (q_n (k1 _ _ ?_))
 refine sx_seq fun K6 k6 => sx_region ?_
 refine sx_pure rfl rfl rfl (px_field rfl xfld29x1) ?_
 have f7 := fb2.ext cb4
 refine sx_pure rfl rfl rfl (px_load rfl (f7.load1 rfl Try.isAgg22)) ?_
 refine sm rfl rfl rfl rfl ?_
 have f8 := hva0.ext cb2
 have f9 := f8.ext cb4
 have f10 := hvb0.ext cb2
 have f11 := f10.ext cb4
 refine sx_call rfl rfl Try.call120 (c_natDiv f9 f11 (by omega) (by omega) (hd0)) (fun v12 w12 p12 => ?_)
 obtain ⟨s12, t12, rfl, os_12, ot_12, c12⟩ := p12
 have zw12 := c12.size
 refine sm rfl rfl rfl rfl ?_
 refine sx_pure rfl rfl rfl (px_extract (vs := [s12, t12]) rfl rfl) ?_
 refine sx_pure rfl rfl rfl (px_extract (vs := [s12, t12]) rfl rfl) ?_
 refine sa rfl rfl rfl rfl ?_
 refine sa rfl rfl rfl rfl ?_
 refine wl_nil (q_n (k6 _ _ ?_))
 refine sx_seq fun K13 k13 => ?_
 refine sx_seq fun K14 k14 => ?_
 by_cases ph57 : 0 < (dg (x.natAbs % d)).length
 ·
  have f15 := f7.ext c12
  have f16 := fb4.ext c12
  have f17 := f9.ext c12
  have f18 := f11.ext c12
  refine dx_region (fun w' => Chg 0 0 w12 w') (by kernel_rfl) (Chg.zero (Chg.drew _)) ?_
  have d19 := Chg.drew w12
  have s19 : Chg 0 0 w12 (World.drew w12) := Chg.zero (Chg.drew _)
  have y19 : (World.drew w12).heap.size = w12.heap.size := rfl
  generalize World.drew w12 = w19 at *
  have zw19 := d19.size
  refine dx_take 0 rfl rfl rfl rfl (by kernel_rfl) (by kernel_rfl) (by kernel_rfl) s19 (fun _ hS => px_move rfl) ?_
  refine dx_take 1 rfl rfl rfl rfl (by kernel_rfl) (by kernel_rfl) (by kernel_rfl) s19 (fun _ hS => px_len rfl Try.underlying22 ((ot_12.sv).chg hS (by omega))) ?_
  refine dx_take 2 rfl rfl rfl rfl (by kernel_rfl) (by kernel_rfl) (by kernel_rfl) s19 (fun _ hS => px_gt rfl rfl) ?_
  refine dx_take 3 rfl rfl rfl rfl (by kernel_rfl) (by kernel_rfl) (by kernel_rfl) s19 (fun _ hS => px_move rfl) ?_
  have h57 : (0 : Int) < ↑((dg (x.natAbs % d)).length) := by omega
  refine dx_tmpPT (t := 19) rfl h57 ?_
  refine dx_takeG 5 rfl rfl rfl rfl rfl rfl (by kernel_rfl) (by kernel_rfl) (by kernel_rfl) s19 (fun _ hS => px_move rfl) ?_
  refine dx_takeG 8 rfl rfl rfl rfl rfl rfl (by kernel_rfl) (by kernel_rfl) (by kernel_rfl) s19 (fun _ hS => px_field rfl xfld29x0) ?_
  refine dx_takeG 9 rfl rfl rfl rfl rfl rfl (by kernel_rfl) (by kernel_rfl) (by kernel_rfl) s19 (fun _ hS => px_load rfl ((f15.chg hS (by omega)).load1 rfl Try.isAgg4)) ?_
  refine dx_takeG 10 rfl rfl rfl rfl rfl rfl (by kernel_rfl) (by kernel_rfl) (by kernel_rfl) s19 (fun _ hS => px_move rfl) ?_
  refine dx_takeG 11 rfl rfl rfl rfl rfl rfl (by kernel_rfl) (by kernel_rfl) (by kernel_rfl) s19 (fun _ hS => px_move rfl) ?_
  refine dx_takeG 13 rfl rfl rfl rfl rfl rfl (by kernel_rfl) (by kernel_rfl) (by kernel_rfl) s19 (fun _ hS => px_move rfl) ?_
  refine dx_takeG 15 rfl rfl rfl rfl rfl rfl (by kernel_rfl) (by kernel_rfl) (by kernel_rfl) s19 (fun _ hS => px_move rfl) ?_
  refine dx_eff 4 rfl (by kernel_rfl) ?_
  refine sx_guardT rfl rfl rfl ?_
  refine sx_call rfl rfl Try.call126 (c_roundModes) (fun v20 w20 p20 => ?_)
  obtain ⟨rfl, c20⟩ := p20
  have zw20 := c20.size
  have s21 : Chg 0 0 w12 w20 := (d19.t c20)
  refine wl_nil ?_
  refine dx_next s21 ?_
  refine dx_takeG 6 rfl rfl rfl rfl rfl rfl (by kernel_rfl) (by kernel_rfl) (by kernel_rfl) s21 (fun _ hS => px_indexRm rfl rfl (by omega)) ?_
  refine dx_takeG 7 rfl rfl rfl rfl rfl rfl (by kernel_rfl) (by kernel_rfl) (by kernel_rfl) s21 (fun _ hS => px_fieldv rfl (xfv106x1 _)) ?_
  refine dx_eff 12 rfl (by kernel_rfl) ?_
  refine sx_guardT rfl rfl rfl ?_
  have f22 := ot_12.ext d19
  have f23 := f22.ext c20
  refine sx_call rfl rfl Try.call112 (c_natAdd f23.sv f23.sv (by omega) (by omega)) (fun v24 w24 p24 => ?_)
  obtain ⟨s24, rfl, os_24, c24⟩ := p24
  have zw24 := c24.size
  have s25 : Chg 0 0 w12 w24 := ((d19.t c20).t c24)
  refine wl_nil ?_
  refine dx_next s25 ?_
  refine dx_eff 14 rfl (by kernel_rfl) ?_
  refine sx_guardT rfl rfl rfl ?_
  have f26 := f18.ext d19
  have f27 := f26.ext c20
  have f28 := f27.ext c24
  refine sx_call rfl rfl Try.call113 (c_natCmp os_24.sv f28 (by omega)) (fun v29 w29 p29 => ?_)
  obtain ⟨rfl, c29⟩ := p29
  have zw29 := c29.size
  have s30 : Chg 0 0 w12 w29 := (((d19.t c20).t c24).t c29)
  refine wl_nil ?_
  refine dx_next s30 ?_
  refine dx_eff 16 rfl (by kernel_rfl) ?_
  refine sx_guardT rfl rfl rfl ?_
  have f31 := os_12.ext d19
  have f32 := f31.ext c20
  have f33 := f32.ext c24
  have f34 := f33.ext c29
  refine sx_call rfl rfl Try.call127 (c_iNatEven f34.sv (by omega)) (fun v35 w35 p35 => ?_)
  obtain ⟨rfl, c35⟩ := p35
  have zw35 := c35.size
  have s36 : Chg 0 0 w12 w35 := ((((d19.t c20).t c24).t c29).t c35)
  refine wl_nil ?_
  refine dx_next s36 ?_
  refine dx_takeG 17 rfl rfl rfl rfl rfl rfl (by kernel_rfl) (by kernel_rfl) (by kernel_rfl) s36 (fun _ hS => px_notP rfl) ?_
  refine dx_eff 18 rfl (by kernel_rfl) ?_
  refine sx_guardT rfl rfl rfl ?_
  refine sx_callV rfl rfl rfl (rm_call (m := m) (by omega)) (c_away (m := m) (by omega)) (fun v37 w37 p37 => ?_)
  obtain ⟨rfl, c37⟩ := p37
  have zw37 := c37.size
  have s38 : Chg 0 0 w12 w37 := (((((d19.t c20).t c24).t c29).t c35).t c37)
  refine wl_nil ?_
  refine dx_next s38 ?_
  refine dx_take 19 rfl rfl rfl rfl (by kernel_rfl) (by kernel_rfl) (by kernel_rfl) s38 (fun _ hS => px_pick rfl rfl) ?_
  refine dx_done (by kernel_rfl) ?_
  refine q_n (k14 _ _ ?_)
  refine sx_sub (Sub.cons (t := 3) rfl (.cons (t := 6) rfl (.cons (t := 7) rfl (.cons (t := 35) rfl (.nil))))) ?_
  refine sx_condB rfl (fun h57x1 => ?_) (fun h57x1 => ?_)
  ·
   try rw [cmpL_dg] at h57x1
   try simp only [Decidable.not_not] at h57x1
   have e := rq_up (x := x) (d := d) (m := m) (len_pos.1 (by omega)) h57x1
   refine sx_region ?_
   refine sm rfl rfl rfl rfl ?_
   refine sx_lit1 rfl xelt22 rfl rfl (fun s39 ws39 ss39 fs39 cs39 => ?_)
   have ns39 := Own.norm (f := (Value.int .i64)) (zs := [1]) fs39
   have zws39 := cs39.size
   have f40 := f34.ext c35
   have f41 := f40.ext c37
   have f42 := f41.ext cs39
   refine sx_call rfl rfl Try.call112 (c_natAdd1 f42.sv ns39.sv (by omega) (rfl)) (fun v43 w43 p43 => ?_)
   obtain ⟨s43, rfl, os_43, c43⟩ := p43
   have zw43 := c43.size
   refine sa rfl rfl rfl rfl ?_
   refine wl_nil (q_n (k13 _ _ ?_))
   refine sx_seq fun K44 k44 => sx_region ?_
   refine sx_pure rfl rfl rfl (px_field rfl xfld29x0) ?_
   have f45 := f15.ext d19
   have f46 := f45.ext c20
   have f47 := f46.ext c24
   have f48 := f47.ext c29
   have f49 := f48.ext c35
   have f50 := f49.ext c37
   have f51 := f50.ext cs39
   have f52 := f51.ext c43
   refine sx_pure rfl rfl rfl (px_load rfl (f52.load1 rfl Try.isAgg4)) ?_
   refine sm rfl rfl rfl rfl ?_
   refine sx_call rfl rfl Try.call90 (c_signed os_43.sv (by have h9 := rq_len (x := x) (d := d) (m := m) hbx; rw [e] at h9; omega)) (fun v53 w53 p53 => ?_)
   obtain ⟨rfl, c53⟩ := p53
   have zw53 := c53.size
   have f55 := f16.ext d19
   have f56 := f55.ext c20
   have f57 := f56.ext c24
   have f58 := f57.ext c29
   have f59 := f58.ext c35
   have f60 := f59.ext c37
   have f61 := f60.ext cs39
   have f62 := f61.ext c43
   have f63 := f62.ext c53
   have f64 := os_43.ext c53
   refine sx_store (vs := [.bool (nz (ng x) (dg ((x.natAbs / d) + 1))), v43]) rfl rfl f63 rfl Try.sizeOf29 (Nat.le_of_ble_eq_true rfl) (one_cons rfl (one_cons f64.one one_nil)) (fun w54 sw54 fw54 cw54 => ?_)
   have zw54 := cw54.size
   have gw54 : Blk w54 b4 [.bool (nz (ng x) (dg ((x.natAbs / d) + 1))), v43] 29 := fw54
   refine wl_nil (q_n (k44 _ _ ?_))
   refine sx_retc ?_
   refine sx_ret1 Try.results102 ⟨_, rfl, gw54.loadA (vs := [.bool (nz (ng x) (dg ((x.natAbs / d) + 1))), v43]) (look_lit rfl) Try.isAgg29 Try.sizeOf29⟩ ?_
   have hh := rqI_sg x d m
   rw [e] at hh
   rw [← hh.1, ← hh.2]
   have q65 := Chg.step (l := 0) (h := 0) (Chg.zero (l := 0) (h := 0) (((((((((((cb2.t cb4).t c12).t d19).t c20).t c24).t c29).t c35).t c37).t cs39).t c43).t c53)) cw54 (by omega)
   have f66 := f64.chg cw54 (by omega)
   exact ⟨_, rfl, (Own.mono f66 (by omega) (by omega)), q65⟩
  ·
   try rw [cmpL_dg] at h57x1
   try simp only [Decidable.not_not] at h57x1
   have e := rq_dn (x := x) (d := d) (m := m) (fun hh => by have h9 := hh.2; rw [h57x1] at h9; cases h9)
   refine sx_skip ?_
   refine q_n (k13 _ _ ?_)
   refine sx_seq fun K67 k67 => sx_region ?_
   refine sx_pure rfl rfl rfl (px_field rfl xfld29x0) ?_
   have f68 := f15.ext d19
   have f69 := f68.ext c20
   have f70 := f69.ext c24
   have f71 := f70.ext c29
   have f72 := f71.ext c35
   have f73 := f72.ext c37
   refine sx_pure rfl rfl rfl (px_load rfl (f73.load1 rfl Try.isAgg4)) ?_
   refine sm rfl rfl rfl rfl ?_
   have f74 := f34.ext c35
   have f75 := f74.ext c37
   refine sx_call rfl rfl Try.call90 (c_signed f75.sv (by have h9 := rq_len (x := x) (d := d) (m := m) hbx; rw [e] at h9; omega)) (fun v76 w76 p76 => ?_)
   obtain ⟨rfl, c76⟩ := p76
   have zw76 := c76.size
   have f78 := f16.ext d19
   have f79 := f78.ext c20
   have f80 := f79.ext c24
   have f81 := f80.ext c29
   have f82 := f81.ext c35
   have f83 := f82.ext c37
   have f84 := f83.ext c76
   have f85 := f75.ext c76
   refine sx_store (vs := [.bool (nz (ng x) (dg (x.natAbs / d))), s12]) rfl rfl f84 rfl Try.sizeOf29 (Nat.le_of_ble_eq_true rfl) (one_cons rfl (one_cons f85.one one_nil)) (fun w77 sw77 fw77 cw77 => ?_)
   have zw77 := cw77.size
   have gw77 : Blk w77 b4 [.bool (nz (ng x) (dg (x.natAbs / d))), s12] 29 := fw77
   refine wl_nil (q_n (k67 _ _ ?_))
   refine sx_retc ?_
   refine sx_ret1 Try.results102 ⟨_, rfl, gw77.loadA (vs := [.bool (nz (ng x) (dg (x.natAbs / d))), s12]) (look_lit rfl) Try.isAgg29 Try.sizeOf29⟩ ?_
   have hh := rqI_sg x d m
   rw [e] at hh
   rw [← hh.1, ← hh.2]
   have q86 := Chg.step (l := 0) (h := 0) (Chg.zero (l := 0) (h := 0) (((((((((cb2.t cb4).t c12).t d19).t c20).t c24).t c29).t c35).t c37).t c76)) cw77 (by omega)
   have f87 := f85.chg cw77 (by omega)
   exact ⟨_, rfl, (Own.mono f87 (by omega) (by omega)), q86⟩
 ·
  have e := rq_dn (x := x) (d := d) (m := m) (fun hh => by have h9 := len_pos.2 hh.1; omega)
  have f88 := f7.ext c12
  have f89 := fb4.ext c12
  have f90 := f9.ext c12
  have f91 := f11.ext c12
  refine dx_region (fun w' => Chg 0 0 w12 w') (by kernel_rfl) (Chg.zero (Chg.drew _)) ?_
  have d92 := Chg.drew w12
  have s92 : Chg 0 0 w12 (World.drew w12) := Chg.zero (Chg.drew _)
  have y92 : (World.drew w12).heap.size = w12.heap.size := rfl
  generalize World.drew w12 = w92 at *
  have zw92 := d92.size
  refine dx_take 0 rfl rfl rfl rfl (by kernel_rfl) (by kernel_rfl) (by kernel_rfl) s92 (fun _ hS => px_move rfl) ?_
  refine dx_take 1 rfl rfl rfl rfl (by kernel_rfl) (by kernel_rfl) (by kernel_rfl) s92 (fun _ hS => px_len rfl Try.underlying22 ((ot_12.sv).chg hS (by omega))) ?_
  refine dx_take 2 rfl rfl rfl rfl (by kernel_rfl) (by kernel_rfl) (by kernel_rfl) s92 (fun _ hS => px_gt rfl rfl) ?_
  refine dx_take 3 rfl rfl rfl rfl (by kernel_rfl) (by kernel_rfl) (by kernel_rfl) s92 (fun _ hS => px_move rfl) ?_
  have h57 : ¬ ((0 : Int) < ↑((dg (x.natAbs % d)).length)) := by omega
  refine dx_tmpPF (t := 19) rfl h57 ?_
  refine dx_skip 4 rfl rfl rfl rfl rfl rfl rfl (by kernel_rfl) (by kernel_rfl) (by kernel_rfl) s92 ?_
  refine dx_skip 5 rfl rfl rfl rfl rfl rfl rfl (by kernel_rfl) (by kernel_rfl) (by kernel_rfl) s92 ?_
  refine dx_skip 6 rfl rfl rfl rfl rfl rfl rfl (by kernel_rfl) (by kernel_rfl) (by kernel_rfl) s92 ?_
  refine dx_skip 7 rfl rfl rfl rfl rfl rfl rfl (by kernel_rfl) (by kernel_rfl) (by kernel_rfl) s92 ?_
  refine dx_skip 8 rfl rfl rfl rfl rfl rfl rfl (by kernel_rfl) (by kernel_rfl) (by kernel_rfl) s92 ?_
  refine dx_skip 9 rfl rfl rfl rfl rfl rfl rfl (by kernel_rfl) (by kernel_rfl) (by kernel_rfl) s92 ?_
  refine dx_skip 10 rfl rfl rfl rfl rfl rfl rfl (by kernel_rfl) (by kernel_rfl) (by kernel_rfl) s92 ?_
  refine dx_skip 11 rfl rfl rfl rfl rfl rfl rfl (by kernel_rfl) (by kernel_rfl) (by kernel_rfl) s92 ?_
  refine dx_skip 12 rfl rfl rfl rfl rfl rfl rfl (by kernel_rfl) (by kernel_rfl) (by kernel_rfl) s92 ?_
  refine dx_skip 13 rfl rfl rfl rfl rfl rfl rfl (by kernel_rfl) (by kernel_rfl) (by kernel_rfl) s92 ?_
  refine dx_skip 14 rfl rfl rfl rfl rfl rfl rfl (by kernel_rfl) (by kernel_rfl) (by kernel_rfl) s92 ?_
  refine dx_skip 15 rfl rfl rfl rfl rfl rfl rfl (by kernel_rfl) (by kernel_rfl) (by kernel_rfl) s92 ?_
  refine dx_skip 16 rfl rfl rfl rfl rfl rfl rfl (by kernel_rfl) (by kernel_rfl) (by kernel_rfl) s92 ?_
  refine dx_skip 17 rfl rfl rfl rfl rfl rfl rfl (by kernel_rfl) (by kernel_rfl) (by kernel_rfl) s92 ?_
  refine dx_skip 18 rfl rfl rfl rfl rfl rfl rfl (by kernel_rfl) (by kernel_rfl) (by kernel_rfl) s92 ?_
  refine dx_take 19 rfl rfl rfl rfl (by kernel_rfl) (by kernel_rfl) (by kernel_rfl) s92 (fun _ hS => px_pick rfl rfl) ?_
  refine dx_done (by kernel_rfl) ?_
  refine q_n (k14 _ _ ?_)
  refine sx_sub (Sub.cons (t := 3) rfl (.cons (t := 6) rfl (.cons (t := 7) rfl (.cons (t := 35) rfl (.nil))))) ?_
  refine sx_condF rfl ?_
  refine sx_skip ?_
  refine q_n (k13 _ _ ?_)
  refine sx_seq fun K93 k93 => sx_region ?_
  refine sx_pure rfl rfl rfl (px_field rfl xfld29x0) ?_
  have f94 := f88.ext d92
  refine sx_pure rfl rfl rfl (px_load rfl (f94.load1 rfl Try.isAgg4)) ?_
  refine sm rfl rfl rfl rfl ?_
  have f95 := os_12.ext d92
  refine sx_call rfl rfl Try.call90 (c_signed f95.sv (by have h9 := rq_len (x := x) (d := d) (m := m) hbx; rw [e] at h9; omega)) (fun v96 w96 p96 => ?_)
  obtain ⟨rfl, c96⟩ := p96
  have zw96 := c96.size
  have f98 := f89.ext d92
  have f99 := f98.ext c96
  have f100 := f95.ext c96
  refine sx_store (vs := [.bool (nz (ng x) (dg (x.natAbs / d))), s12]) rfl rfl f99 rfl Try.sizeOf29 (Nat.le_of_ble_eq_true rfl) (one_cons rfl (one_cons f100.one one_nil)) (fun w97 sw97 fw97 cw97 => ?_)
  have zw97 := cw97.size
  have gw97 : Blk w97 b4 [.bool (nz (ng x) (dg (x.natAbs / d))), s12] 29 := fw97
  refine wl_nil (q_n (k93 _ _ ?_))
  refine sx_retc ?_
  refine sx_ret1 Try.results102 ⟨_, rfl, gw97.loadA (vs := [.bool (nz (ng x) (dg (x.natAbs / d))), s12]) (look_lit rfl) Try.isAgg29 Try.sizeOf29⟩ ?_
  have hh := rqI_sg x d m
  rw [e] at hh
  rw [← hh.1, ← hh.2]
  have q101 := Chg.step (l := 0) (h := 0) (Chg.zero (l := 0) (h := 0) ((((cb2.t cb4).t c12).t d92).t c96)) cw97 (by omega)
  have f102 := f100.chg cw97 (by omega)
  exact ⟨_, rfl, (Own.mono f102 (by omega) (by omega)), q101⟩

theorem c_iRatRound {w : World} {n1 : Bool} {v1 : Value} {lv1 uv1 : Nat} {z1 : List Int} {d1 : Value} {ld1 ud1 : Nat} {y1 : List Int} {m : Int} (hv1 : Sl w lv1 uv1 v1 (z1)) (hd1 : Sl w ld1 ud1 d1 (y1)) (h63 : z1.length ≤ 4611686018427387904 ∧ y1.length ≤ 4611686018427387904) :
  Ret Try.prog 57 [.agg #[.bool n1, v1, d1], .int .i64 m] w fun v w' => ∃ s, v = .tuple #[.agg #[.bool ((rRound n1 z1 y1 m).1), s], .bool ((rRound n1 z1 y1 m).2.2)] ∧ OwnI w' w.heap.size w'.heap.size s intT ((rRound n1 z1 y1 m).2.1) ∧ ((rRound n1 z1 y1 m).2.1.length ≤ 19) ∧ Chg 0 0 w w' := by
 have hv10 := hv1.fit
 have hd10 := hd1.fit
 refine sx_enter Try.func57 rfl Try.ntmps57 (Nat.le_of_ble_eq_true rfl) ?_
 refine sx_seq fun K1 k1 => sx_region ?_
 refine sx_box [.bool n1, v1, d1] rfl rfl rfl (fun b2 w3 eb2 sb2 fb2 cb2 => ?_)
 have zw3 := cb2.size
 refine sx_alloc [.bool false, (.slice none 0 0)] rfl Try.zeroValue29 rfl (fun b4 w5 eb4 sb4 fb4 cb4 => ?_)
 have zw5 := cb4.size
 refine sa rfl rfl rfl rfl ?_
 refine wl_nil (q_n (k1 _ _ ?_))
 refine sx_seq fun K6 k6 => ?_
 refine sx_seq fun K7 k7 => sx_region ?_
 have f8 := fb2.ext cb4
 refine sx_pure rfl rfl rfl (px_load rfl (f8.loadA (vs := [.bool n1, v1, d1]) (look_lit rfl) Try.isAgg53 Try.sizeOf53)) ?_
 have f9 := hv10.ext cb2
 have f10 := f9.ext cb4
 have f11 := hd10.ext cb2
 have f12 := f11.ext cb4
 refine sx_call rfl rfl Try.call77 (c_iRatOk f10 f12 (by omega)) (fun v13 w13 p13 => ?_)
 obtain ⟨rfl, c13⟩ := p13
 have zw13 := c13.size
 refine sx_pure rfl rfl rfl (px_notP rfl) ?_
 refine sm rfl rfl rfl rfl ?_
 refine sx_tmpP (t := 9) rfl (fun h74 => ?_) (fun h74 => ?_)
 ·
  refine sx_guardF rfl rfl rfl rfl rfl rfl ?_
  refine sx_guardF rfl rfl rfl rfl rfl rfl ?_
  refine sx_guardF rfl rfl rfl rfl rfl rfl ?_
  refine sx_pure rfl rfl rfl (px_pick rfl rfl) ?_
  refine wl_nil (q_n (k7 _ _ ?_))
  refine sx_condT rfl ?_
  refine sx_seq fun K14 k14 => sx_region ?_
  refine sx_pure rfl rfl rfl (px_build rfl (xbld29x  _)) ?_
  have f16 := fb4.ext c13
  refine sx_store (vs := [.bool false, (.slice none 0 0)]) rfl rfl f16 rfl Try.sizeOf29 (Nat.le_of_ble_eq_true rfl) (one_cons rfl (one_cons rfl one_nil)) (fun w15 sw15 fw15 cw15 => ?_)
  have zw15 := cw15.size
  have gw15 : Blk w15 b4 [.bool false, (.slice none 0 0)] 29 := fw15
  refine sa rfl rfl rfl rfl ?_
  refine wl_nil (q_n (k14 _ _ ?_))
  refine sx_retc ?_
  refine q_r (sx_ret2 Try.results57 ⟨_, rfl, gw15.loadA (vs := [.bool false, (.slice none 0 0)]) (look_lit rfl) Try.isAgg29 Try.sizeOf29⟩ rfl ?_)
  rw [rRound_no (by grind)]
  have q17 := Chg.step (l := 0) (h := 0) (Chg.zero (l := 0) (h := 0) ((cb2.t cb4).t c13)) cw15 (by omega)
  exact ⟨_, rfl, Own.nil _ _ _ _ _, by simp [noS], q17⟩
 ·
  refine sx_guardT rfl rfl rfl ?_
  refine sm rfl rfl rfl rfl ?_
  refine sx_guardT rfl rfl rfl ?_
  refine sx_call rfl rfl Try.call101 (c_isMode) (fun v18 w18 p18 => ?_)
  obtain ⟨rfl, c18⟩ := p18
  have zw18 := c18.size
  refine sx_guardT rfl rfl rfl ?_
  refine sx_pure rfl rfl rfl (px_notP rfl) ?_
  refine sx_pure rfl rfl rfl (px_pick rfl rfl) ?_
  refine wl_nil (q_n (k7 _ _ ?_))
  refine sx_condP rfl (fun h74x1 => ?_) (fun h74x1 => ?_)
  ·
   refine sx_seq fun K19 k19 => sx_region ?_
   refine sx_pure rfl rfl rfl (px_build rfl (xbld29x  _)) ?_
   have f21 := fb4.ext c13
   have f22 := f21.ext c18
   refine sx_store (vs := [.bool false, (.slice none 0 0)]) rfl rfl f22 rfl Try.sizeOf29 (Nat.le_of_ble_eq_true rfl) (one_cons rfl (one_cons rfl one_nil)) (fun w20 sw20 fw20 cw20 => ?_)
   have zw20 := cw20.size
   have gw20 : Blk w20 b4 [.bool false, (.slice none 0 0)] 29 := fw20
   refine sa rfl rfl rfl rfl ?_
   refine wl_nil (q_n (k19 _ _ ?_))
   refine sx_retc ?_
   refine q_r (sx_ret2 Try.results57 ⟨_, rfl, gw20.loadA (vs := [.bool false, (.slice none 0 0)]) (look_lit rfl) Try.isAgg29 Try.sizeOf29⟩ rfl ?_)
   rw [rRound_no (by grind)]
   have q23 := Chg.step (l := 0) (h := 0) (Chg.zero (l := 0) (h := 0) (((cb2.t cb4).t c13).t c18)) cw20 (by omega)
   exact ⟨_, rfl, Own.nil _ _ _ _ _, by simp [noS], q23⟩
  ·
   have hR := Decidable.not_not.1 h74
   have hM := Decidable.not_not.1 h74x1
   obtain ⟨x1, e1, rfl, rfl, rfl, he0, hx1, he1, hg1⟩ := hR.rat
   refine sx_skip ?_
   refine q_n (k6 _ _ ?_)
   refine sx_seq fun K24 k24 => sx_region ?_
   refine sx_pure rfl rfl rfl (px_field rfl xfld53x0) ?_
   have f25 := f8.ext c13
   have f26 := f25.ext c18
   refine sx_pure rfl rfl rfl (px_load rfl (f26.loadA (vs := [.bool (ng x1), v1]) (look_lit rfl) Try.isAgg29 Try.sizeOf29)) ?_
   refine sx_pure rfl rfl rfl (px_field rfl xfld53x1) ?_
   refine sx_pure rfl rfl rfl (px_load rfl (f26.load1 rfl Try.isAgg22)) ?_
   refine sm rfl rfl rfl rfl ?_
   have f27 := f10.ext c13
   have f28 := f27.ext c18
   have f29 := f12.ext c13
   have f30 := f29.ext c18
   refine sx_call rfl rfl Try.call102 (c_roundQuotient f28 f30 (by omega) (by omega) (by omega) (by omega)) (fun v31 w31 p31 => ?_)
   obtain ⟨s31, rfl, os_31, c31⟩ := p31
   have zw31 := c31.size
   have f33 := fb4.ext c13
   have f34 := f33.ext c18
   have f35 := f34.ext c31
   refine sx_store (vs := [.bool (ng (rqI x1 e1 m)), s31]) rfl rfl f35 rfl Try.sizeOf29 (Nat.le_of_ble_eq_true rfl) (one_cons rfl (one_cons os_31.one one_nil)) (fun w32 sw32 fw32 cw32 => ?_)
   have zw32 := cw32.size
   have gw32 : Blk w32 b4 [.bool (ng (rqI x1 e1 m)), s31] 29 := fw32
   refine sa rfl rfl rfl rfl ?_
   refine wl_nil (q_n (k24 _ _ ?_))
   refine sx_sub (Sub.cons (t := 4) rfl (.cons (t := 5) rfl (.nil))) ?_
   refine sx_retc ?_
   refine sx_ret2 Try.results57 ⟨_, rfl, gw32.loadA (vs := [.bool (ng (rqI x1 e1 m)), s31]) (look_lit rfl) Try.isAgg29 Try.sizeOf29⟩ rfl ?_
   have hrl := rRound_len (n := ng x1) (z := dg x1.natAbs) (y := dg e1) (m := m)
   rw [rRound_ok ⟨hR, hM⟩] at hrl ⊢
   have q36 := Chg.step (l := 0) (h := 0) (Chg.zero (l := 0) (h := 0) ((((cb2.t cb4).t c13).t c18).t c31)) cw32 (by omega)
   have f37 := os_31.chg cw32 (by omega)
   exact ⟨_, rfl, (Own.mono f37 (by omega) (by omega)), hrl, q36⟩

theorem c_sRatFloor {w : World} {n1 : Bool} {v1 : Value} {lv1 uv1 : Nat} {z1 : List Int} {d1 : Value} {ld1 ud1 : Nat} {y1 : List Int} (hv1 : Sl w lv1 uv1 v1 (z1)) (hd1 : Sl w ld1 ud1 d1 (y1)) (h63 : z1.length ≤ 4611686018427387904 ∧ y1.length ≤ 4611686018427387904) :
  Ret Try.prog 58 [.agg #[.bool n1, v1, d1]] w fun v w' => ∃ s, v = .tuple #[.agg #[.bool ((rRound n1 z1 y1 2).1), s], .bool ((rRound n1 z1 y1 2).2.2)] ∧ OwnI w' w.heap.size w'.heap.size s intT ((rRound n1 z1 y1 2).2.1) ∧ ((rRound n1 z1 y1 2).2.1.length ≤ 19) ∧ Chg 0 0 w w' := by
 have hv10 := hv1.fit
 have hd10 := hd1.fit
 refine sx_enter Try.func58 rfl Try.ntmps58 (Nat.le_of_ble_eq_true rfl) ?_
 refine sx_seq fun K1 k1 => sx_region ?_
 refine sx_box [.bool n1, v1, d1] rfl rfl rfl (fun b2 w3 eb2 sb2 fb2 cb2 => ?_)
 have zw3 := cb2.size
 refine sx_alloc [.bool false, (.slice none 0 0)] rfl Try.zeroValue29 rfl (fun b4 w5 eb4 sb4 fb4 cb4 => ?_)
 have zw5 := cb4.size
 refine sa rfl rfl rfl rfl ?_
 refine wl_nil (q_n (k1 _ _ ?_))
 refine sx_seq fun K6 k6 => sx_region ?_
 have f7 := fb2.ext cb4
 refine sx_pure rfl rfl rfl (px_load rfl (f7.loadA (vs := [.bool n1, v1, d1]) (look_lit rfl) Try.isAgg53 Try.sizeOf53)) ?_
 have f8 := hv10.ext cb2
 have f9 := f8.ext cb4
 have f10 := hd10.ext cb2
 have f11 := f10.ext cb4
 refine sx_call rfl rfl Try.call56 (c_sRatRound f9 f11 (by omega)) (fun v12 w12 p12 => ?_)
 obtain ⟨s12, rfl, os_12, hl12, c12⟩ := p12
 have zw12 := c12.size
 refine sx_pure rfl rfl rfl (px_extract (vs := [.agg #[.bool ((rRound n1 z1 y1 2).1), s12], .bool ((rRound n1 z1 y1 2).2.2)]) rfl rfl) ?_
 refine sx_pure rfl rfl rfl (px_extract (vs := [.agg #[.bool ((rRound n1 z1 y1 2).1), s12], .bool ((rRound n1 z1 y1 2).2.2)]) rfl rfl) ?_
 have f14 := fb4.ext c12
 refine sx_store (vs := [.bool ((rRound n1 z1 y1 2).1), s12]) rfl rfl f14 rfl Try.sizeOf29 (Nat.le_of_ble_eq_true rfl) (one_cons rfl (one_cons os_12.one one_nil)) (fun w13 sw13 fw13 cw13 => ?_)
 have zw13 := cw13.size
 have gw13 : Blk w13 b4 [.bool ((rRound n1 z1 y1 2).1), s12] 29 := fw13
 refine sa rfl rfl rfl rfl ?_
 refine wl_nil (q_n (k6 _ _ ?_))
 refine sx_retc ?_
 refine sx_ret2 Try.results58 ⟨_, rfl, gw13.loadA (vs := [.bool ((rRound n1 z1 y1 2).1), s12]) (look_lit rfl) Try.isAgg29 Try.sizeOf29⟩ rfl ?_
 have q15 := Chg.step (l := 0) (h := 0) (Chg.zero (l := 0) (h := 0) ((cb2.t cb4).t c12)) cw13 (by omega)
 have f16 := os_12.chg cw13 (by omega)
 exact ⟨_, rfl, (Own.mono f16 (by omega) (by omega)), rRound_len, q15⟩

theorem c_iRatFloor {w : World} {n1 : Bool} {v1 : Value} {lv1 uv1 : Nat} {z1 : List Int} {d1 : Value} {ld1 ud1 : Nat} {y1 : List Int} (hv1 : Sl w lv1 uv1 v1 (z1)) (hd1 : Sl w ld1 ud1 d1 (y1)) (h63 : z1.length ≤ 4611686018427387904 ∧ y1.length ≤ 4611686018427387904) :
  Ret Try.prog 59 [.agg #[.bool n1, v1, d1]] w fun v w' => ∃ s, v = .tuple #[.agg #[.bool ((rRound n1 z1 y1 2).1), s], .bool ((rRound n1 z1 y1 2).2.2)] ∧ OwnI w' w.heap.size w'.heap.size s intT ((rRound n1 z1 y1 2).2.1) ∧ ((rRound n1 z1 y1 2).2.1.length ≤ 19) ∧ Chg 0 0 w w' := by
 have hv10 := hv1.fit
 have hd10 := hd1.fit
 refine sx_enter Try.func59 rfl Try.ntmps59 (Nat.le_of_ble_eq_true rfl) ?_
 refine sx_seq fun K1 k1 => sx_region ?_
 refine sx_box [.bool n1, v1, d1] rfl rfl rfl (fun b2 w3 eb2 sb2 fb2 cb2 => ?_)
 have zw3 := cb2.size
 refine sx_alloc [.bool false, (.slice none 0 0)] rfl Try.zeroValue29 rfl (fun b4 w5 eb4 sb4 fb4 cb4 => ?_)
 have zw5 := cb4.size
 refine sa rfl rfl rfl rfl ?_
 refine wl_nil (q_n (k1 _ _ ?_))
 refine sx_seq fun K6 k6 => sx_region ?_
 have f7 := fb2.ext cb4
 refine sx_pure rfl rfl rfl (px_load rfl (f7.loadA (vs := [.bool n1, v1, d1]) (look_lit rfl) Try.isAgg53 Try.sizeOf53)) ?_
 have f8 := hv10.ext cb2
 have f9 := f8.ext cb4
 have f10 := hd10.ext cb2
 have f11 := f10.ext cb4
 refine sx_call rfl rfl Try.call57 (c_iRatRound f9 f11 (by omega)) (fun v12 w12 p12 => ?_)
 obtain ⟨s12, rfl, os_12, hl12, c12⟩ := p12
 have zw12 := c12.size
 refine sx_pure rfl rfl rfl (px_extract (vs := [.agg #[.bool ((rRound n1 z1 y1 2).1), s12], .bool ((rRound n1 z1 y1 2).2.2)]) rfl rfl) ?_
 refine sx_pure rfl rfl rfl (px_extract (vs := [.agg #[.bool ((rRound n1 z1 y1 2).1), s12], .bool ((rRound n1 z1 y1 2).2.2)]) rfl rfl) ?_
 have f14 := fb4.ext c12
 refine sx_store (vs := [.bool ((rRound n1 z1 y1 2).1), s12]) rfl rfl f14 rfl Try.sizeOf29 (Nat.le_of_ble_eq_true rfl) (one_cons rfl (one_cons os_12.one one_nil)) (fun w13 sw13 fw13 cw13 => ?_)
 have zw13 := cw13.size
 have gw13 : Blk w13 b4 [.bool ((rRound n1 z1 y1 2).1), s12] 29 := fw13
 refine sa rfl rfl rfl rfl ?_
 refine wl_nil (q_n (k6 _ _ ?_))
 refine sx_retc ?_
 refine sx_ret2 Try.results59 ⟨_, rfl, gw13.loadA (vs := [.bool ((rRound n1 z1 y1 2).1), s12]) (look_lit rfl) Try.isAgg29 Try.sizeOf29⟩ rfl ?_
 have q15 := Chg.step (l := 0) (h := 0) (Chg.zero (l := 0) (h := 0) ((cb2.t cb4).t c12)) cw13 (by omega)
 have f16 := os_12.chg cw13 (by omega)
 exact ⟨_, rfl, (Own.mono f16 (by omega) (by omega)), rRound_len, q15⟩

theorem c_sIntOf {w : World} {n : Int} (hn : -9223372036854775808 ≤ n ∧ n ≤ 9223372036854775807) :
  Ret Try.prog 99 [.int .i64 n] w fun v w' => ∃ s, v = .agg #[.bool (ng n), s] ∧ OwnI w' w.heap.size w'.heap.size s intT (dg (n).natAbs) ∧ Chg 0 0 w w' := by
 refine sx_enter Try.func99 rfl Try.ntmps99 (Nat.le_of_ble_eq_true rfl) ?_
 refine sx_seq fun K1 k1 => sx_region ?_
 refine sx_alloc [.bool false, (.slice none 0 0)] rfl Try.zeroValue29 rfl (fun b2 w3 eb2 sb2 fb2 cb2 => ?_)
 have zw3 := cb2.size
 refine wl_nil (q_n (k1 _ _ ?_))
 refine sx_seq fun K4 k4 => ?_
 refine sx_seq fun K5 k5 => sx_region ?_
 refine sm rfl rfl rfl rfl ?_
 refine sx_pure rfl rfl rfl (px_eq rfl rfl) ?_
 refine wl_nil (q_n (k5 _ _ ?_))
 refine sx_condP rfl (fun h15 => ?_) (fun h15 => ?_)
 ·
  subst h15
  refine sx_seq fun K6 k6 => sx_region ?_
  refine sx_lit3 rfl xelt22 rfl rfl rfl rfl rfl rfl (fun s7 ws7 ss7 fs7 cs7 => ?_)
  have ns7 := Own.norm (f := (Value.int .i64)) (zs := [854775808, 223372036, 9]) fs7
  have zws7 := cs7.size
  refine sx_call rfl rfl Try.call106 (c_l04MakeMin ns7.sv (dg_min.symm)) (fun v8 w8 p8 => ?_)
  obtain ⟨s8, rfl, os_8, c8⟩ := p8
  have zw8 := c8.size
  have f10 := fb2.ext cs7
  have f11 := f10.ext c8
  refine sx_store (vs := [.bool (ng (capI true (-9223372036854775808 : Int).natAbs)), s8]) rfl rfl f11 rfl Try.sizeOf29 (Nat.le_of_ble_eq_true rfl) (one_cons rfl (one_cons os_8.one one_nil)) (fun w9 sw9 fw9 cw9 => ?_)
  have zw9 := cw9.size
  have gw9 : Blk w9 b2 [.bool (ng (capI true (-9223372036854775808 : Int).natAbs)), s8] 29 := fw9
  refine wl_nil (q_n (k6 _ _ ?_))
  refine sx_retc ?_
  refine q_r (sx_ret1 Try.results99 ⟨_, rfl, gw9.loadA (vs := [.bool (ng (capI true (-9223372036854775808 : Int).natAbs)), s8]) (look_lit rfl) Try.isAgg29 Try.sizeOf29⟩ ?_)
  have e : capI true (-9223372036854775808 : Int).natAbs = -9223372036854775808 := capI_min
  have f12 := os_8.chg cw9 (by omega)
  have hr := f12
  rw [e] at hr
  have q13 := Chg.step (l := 0) (h := 0) (Chg.zero (l := 0) (h := 0) ((cb2.t cs7).t c8)) cw9 (by omega)
  exact ⟨_, by rw [e], hr.mono (by omega) (by omega), q13⟩
 ·
  refine sx_skip ?_
  refine q_n (k4 _ _ ?_)
  refine sx_seq fun K14 k14 => ?_
  refine sx_seq fun K15 k15 => sx_region ?_
  refine sm rfl rfl rfl rfl ?_
  refine sx_pure rfl rfl rfl (px_lt rfl rfl) ?_
  refine wl_nil (q_n (k15 _ _ ?_))
  refine sx_condP rfl (fun h18 => ?_) (fun h18 => ?_)
  ·
   refine sx_seq fun K16 k16 => sx_region ?_
   refine sm rfl rfl rfl rfl ?_
   refine sx_pure rfl rfl rfl (px_neg rfl (by omega)) ?_
   refine sx_call rfl rfl Try.call86 (c_sNatOf (by omega)) (fun v17 w17 p17 => ?_)
   obtain ⟨s17, rfl, os_17, c17⟩ := p17
   have zw17 := c17.size
   refine sx_call rfl rfl Try.call106 (c_l04Make os_17.sv (by first | (have h9 := len_u64 (n := -n) (by omega); omega) | (have h9 := len_u64 (n := n) (by omega); omega))) (fun v18 w18 p18 => ?_)
   obtain ⟨s18, rfl, os_18, c18⟩ := p18
   have zw18 := c18.size
   have f20 := fb2.ext c17
   have f21 := f20.ext c18
   refine sx_store (vs := [.bool (ng (capI true (((-n)).toNat))), s18]) rfl rfl f21 rfl Try.sizeOf29 (Nat.le_of_ble_eq_true rfl) (one_cons rfl (one_cons os_18.one one_nil)) (fun w19 sw19 fw19 cw19 => ?_)
   have zw19 := cw19.size
   have gw19 : Blk w19 b2 [.bool (ng (capI true (((-n)).toNat))), s18] 29 := fw19
   refine wl_nil (q_n (k16 _ _ ?_))
   refine sx_retc ?_
   refine q_r (sx_ret1 Try.results99 ⟨_, rfl, gw19.loadA (vs := [.bool (ng (capI true (((-n)).toNat))), s18]) (look_lit rfl) Try.isAgg29 Try.sizeOf29⟩ ?_)
   have e : capI true (-n).toNat = n := capI_neg (by omega)
   have f22 := os_18.chg cw19 (by omega)
   have hr := f22
   rw [e] at hr
   have q23 := Chg.step (l := 0) (h := 0) (Chg.zero (l := 0) (h := 0) ((cb2.t c17).t c18)) cw19 (by omega)
   exact ⟨_, by rw [e], hr.mono (by omega) (by omega), q23⟩
  ·
   refine sx_skip ?_
   refine q_n (k14 _ _ ?_)
   refine sx_seq fun K24 k24 => sx_region ?_
   refine sm rfl rfl rfl rfl ?_
   refine sx_call rfl rfl Try.call86 (c_sNatOf (by omega)) (fun v25 w25 p25 => ?_)
   obtain ⟨s25, rfl, os_25, c25⟩ := p25
   have zw25 := c25.size
   refine sx_call rfl rfl Try.call106 (c_l04Make os_25.sv (by first | (have h9 := len_u64 (n := -n) (by omega); omega) | (have h9 := len_u64 (n := n) (by omega); omega))) (fun v26 w26 p26 => ?_)
   obtain ⟨s26, rfl, os_26, c26⟩ := p26
   have zw26 := c26.size
   have f28 := fb2.ext c25
   have f29 := f28.ext c26
   refine sx_store (vs := [.bool (ng (capI false ((n).toNat))), s26]) rfl rfl f29 rfl Try.sizeOf29 (Nat.le_of_ble_eq_true rfl) (one_cons rfl (one_cons os_26.one one_nil)) (fun w27 sw27 fw27 cw27 => ?_)
   have zw27 := cw27.size
   have gw27 : Blk w27 b2 [.bool (ng (capI false ((n).toNat))), s26] 29 := fw27
   refine wl_nil (q_n (k24 _ _ ?_))
   refine sx_retc ?_
   refine sx_ret1 Try.results99 ⟨_, rfl, gw27.loadA (vs := [.bool (ng (capI false ((n).toNat))), s26]) (look_lit rfl) Try.isAgg29 Try.sizeOf29⟩ ?_
   have e : capI false n.toNat = n := capI_pos (by omega)
   have f30 := os_26.chg cw27 (by omega)
   have hr := f30
   rw [e] at hr
   have q31 := Chg.step (l := 0) (h := 0) (Chg.zero (l := 0) (h := 0) ((cb2.t c25).t c26)) cw27 (by omega)
   exact ⟨_, by rw [e], hr.mono (by omega) (by omega), q31⟩

theorem c_sRoundTo {w : World} {n1 : Bool} {v1 : Value} {lv1 uv1 : Nat} {z1 : List Int} {sp : Int} {m : Int} (hv1 : Sl w lv1 uv1 v1 (z1)) (h63 : z1.length ≤ 4611686018427387904) :
  Ret Try.prog 53 [.agg #[.bool n1, v1], .int .i64 sp, .int .i64 m] w fun v w' => ∃ s, v = .tuple #[.agg #[.bool ((roundTo n1 z1 sp m).1), s], .bool ((roundTo n1 z1 sp m).2.2)] ∧ OwnI w' w.heap.size w'.heap.size s intT ((roundTo n1 z1 sp m).2.1) ∧ ((roundTo n1 z1 sp m).2.1.length ≤ 20) ∧ Chg 0 0 w w' := by
 have hv10 := hv1.fit
 refine sx_enter Try.func53 rfl Try.ntmps53 (Nat.le_of_ble_eq_true rfl) ?_
 refine sx_seq fun K1 k1 => sx_region ?_
 refine sx_box [.bool n1, v1] rfl rfl rfl (fun b2 w3 eb2 sb2 fb2 cb2 => ?_)
 have zw3 := cb2.size
 refine sx_alloc [.bool false, (.slice none 0 0)] rfl Try.zeroValue29 rfl (fun b4 w5 eb4 sb4 fb4 cb4 => ?_)
 have zw5 := cb4.size
 refine sa rfl rfl rfl rfl ?_
 refine wl_nil (q_n (k1 _ _ ?_))
 refine sx_seq fun K6 k6 => ?_
 refine sx_seq fun K7 k7 => sx_region ?_
 have f8 := fb2.ext cb4
 refine sx_pure rfl rfl rfl (px_load rfl (f8.loadA (vs := [.bool n1, v1]) (look_lit rfl) Try.isAgg29 Try.sizeOf29)) ?_
 have f9 := hv10.ext cb2
 have f10 := f9.ext cb4
 refine sx_call rfl rfl Try.call60 (c_sIntOk f10 (by omega)) (fun v11 w11 p11 => ?_)
 obtain ⟨rfl, c11⟩ := p11
 have zw11 := c11.size
 refine sx_pure rfl rfl rfl (px_notP rfl) ?_
 refine sm rfl rfl rfl rfl ?_
 refine sx_tmpP (t := 13) rfl (fun h83 => ?_) (fun h83 => ?_)
 ·
  refine sx_guardF rfl rfl rfl rfl rfl rfl ?_
  refine sx_guardF rfl rfl rfl rfl rfl rfl ?_
  refine sx_guardF rfl rfl rfl rfl rfl rfl ?_
  refine sx_pure rfl rfl rfl (px_pick rfl rfl) ?_
  refine sm rfl rfl rfl rfl ?_
  refine sx_guardF rfl rfl rfl rfl rfl rfl ?_
  refine sx_guardF rfl rfl rfl rfl rfl rfl ?_
  refine sx_guardF rfl rfl rfl rfl rfl rfl ?_
  refine sx_pure rfl rfl rfl (px_pick rfl rfl) ?_
  refine wl_nil (q_n (k7 _ _ ?_))
  refine sx_sub (Sub.cons (t := 1) rfl (.cons (t := 2) rfl (.cons (t := 3) rfl (.cons (t := 6) rfl (.cons (t := 7) rfl (.cons (t := 22) rfl (.nil))))))) ?_
  refine sx_condT rfl ?_
  refine sx_seq fun K12 k12 => sx_region ?_
  refine sx_pure rfl rfl rfl (px_build rfl (xbld29x  _)) ?_
  have f14 := fb4.ext c11
  refine sx_store (vs := [.bool false, (.slice none 0 0)]) rfl rfl f14 rfl Try.sizeOf29 (Nat.le_of_ble_eq_true rfl) (one_cons rfl (one_cons rfl one_nil)) (fun w13 sw13 fw13 cw13 => ?_)
  have zw13 := cw13.size
  have gw13 : Blk w13 b4 [.bool false, (.slice none 0 0)] 29 := fw13
  refine sa rfl rfl rfl rfl ?_
  refine wl_nil (q_n (k12 _ _ ?_))
  refine sx_retc ?_
  refine q_r (sx_ret2 Try.results53 ⟨_, rfl, gw13.loadA (vs := [.bool false, (.slice none 0 0)]) (look_lit rfl) Try.isAgg29 Try.sizeOf29⟩ rfl ?_)
  rw [roundTo_no (fun h => by first | exact absurd h.1 (by assumption) | omega | exact absurd h.2.2.2 (by assumption) | (rw [rTo_ok h.1 h.2.1 h.2.2.1] at h87; simp at h87))]
  have q15 := Chg.step (l := 0) (h := 0) (Chg.zero (l := 0) (h := 0) ((cb2.t cb4).t c11)) cw13 (by omega)
  exact ⟨_, rfl, Own.nil _ _ _ _ _, by simp [noS], q15⟩
 ·
  refine sx_guardT rfl rfl rfl ?_
  refine sm rfl rfl rfl rfl ?_
  refine sx_guardT rfl rfl rfl ?_
  refine sx_call rfl rfl Try.call61 (c_l01In) (fun v16 w16 p16 => ?_)
  obtain ⟨rfl, c16⟩ := p16
  have zw16 := c16.size
  refine sx_guardT rfl rfl rfl ?_
  refine sx_pure rfl rfl rfl (px_notP rfl) ?_
  refine sx_pure rfl rfl rfl (px_pick rfl rfl) ?_
  refine sm rfl rfl rfl rfl ?_
  refine sx_tmpP (t := 18) rfl (fun h83x1 => ?_) (fun h83x1 => ?_)
  ·
   refine sx_guardF rfl rfl rfl rfl rfl rfl ?_
   refine sx_guardF rfl rfl rfl rfl rfl rfl ?_
   refine sx_guardF rfl rfl rfl rfl rfl rfl ?_
   refine sx_pure rfl rfl rfl (px_pick rfl rfl) ?_
   refine wl_nil (q_n (k7 _ _ ?_))
   refine sx_sub (Sub.cons (t := 1) rfl (.cons (t := 2) rfl (.cons (t := 3) rfl (.cons (t := 6) rfl (.cons (t := 7) rfl (.cons (t := 22) rfl (.nil))))))) ?_
   refine sx_condT rfl ?_
   refine sx_seq fun K17 k17 => sx_region ?_
   refine sx_pure rfl rfl rfl (px_build rfl (xbld29x  _)) ?_
   have f19 := fb4.ext c11
   have f20 := f19.ext c16
   refine sx_store (vs := [.bool false, (.slice none 0 0)]) rfl rfl f20 rfl Try.sizeOf29 (Nat.le_of_ble_eq_true rfl) (one_cons rfl (one_cons rfl one_nil)) (fun w18 sw18 fw18 cw18 => ?_)
   have zw18 := cw18.size
   have gw18 : Blk w18 b4 [.bool false, (.slice none 0 0)] 29 := fw18
   refine sa rfl rfl rfl rfl ?_
   refine wl_nil (q_n (k17 _ _ ?_))
   refine sx_retc ?_
   refine q_r (sx_ret2 Try.results53 ⟨_, rfl, gw18.loadA (vs := [.bool false, (.slice none 0 0)]) (look_lit rfl) Try.isAgg29 Try.sizeOf29⟩ rfl ?_)
   rw [roundTo_no (fun h => by first | exact absurd h.1 (by assumption) | omega | exact absurd h.2.2.2 (by assumption) | (rw [rTo_ok h.1 h.2.1 h.2.2.1] at h87; simp at h87))]
   have q21 := Chg.step (l := 0) (h := 0) (Chg.zero (l := 0) (h := 0) (((cb2.t cb4).t c11).t c16)) cw18 (by omega)
   exact ⟨_, rfl, Own.nil _ _ _ _ _, by simp [noS], q21⟩
  ·
   refine sx_guardT rfl rfl rfl ?_
   refine sm rfl rfl rfl rfl ?_
   refine sx_guardT rfl rfl rfl ?_
   refine sx_call rfl rfl Try.call98 (c_l06Mode) (fun v22 w22 p22 => ?_)
   obtain ⟨rfl, c22⟩ := p22
   have zw22 := c22.size
   refine sx_guardT rfl rfl rfl ?_
   refine sx_pure rfl rfl rfl (px_notP rfl) ?_
   refine sx_pure rfl rfl rfl (px_pick rfl rfl) ?_
   refine wl_nil (q_n (k7 _ _ ?_))
   refine sx_sub (Sub.cons (t := 1) rfl (.cons (t := 2) rfl (.cons (t := 3) rfl (.cons (t := 6) rfl (.cons (t := 7) rfl (.cons (t := 22) rfl (.nil))))))) ?_
   refine sx_condP rfl (fun h83x2 => ?_) (fun h83x2 => ?_)
   ·
    refine sx_seq fun K23 k23 => sx_region ?_
    refine sx_pure rfl rfl rfl (px_build rfl (xbld29x  _)) ?_
    have f25 := fb4.ext c11
    have f26 := f25.ext c16
    have f27 := f26.ext c22
    refine sx_store (vs := [.bool false, (.slice none 0 0)]) rfl rfl f27 rfl Try.sizeOf29 (Nat.le_of_ble_eq_true rfl) (one_cons rfl (one_cons rfl one_nil)) (fun w24 sw24 fw24 cw24 => ?_)
    have zw24 := cw24.size
    have gw24 : Blk w24 b4 [.bool false, (.slice none 0 0)] 29 := fw24
    refine sa rfl rfl rfl rfl ?_
    refine wl_nil (q_n (k23 _ _ ?_))
    refine sx_retc ?_
    refine q_r (sx_ret2 Try.results53 ⟨_, rfl, gw24.loadA (vs := [.bool false, (.slice none 0 0)]) (look_lit rfl) Try.isAgg29 Try.sizeOf29⟩ rfl ?_)
    rw [roundTo_no (fun h => by first | exact absurd h.1 (by assumption) | omega | exact absurd h.2.2.2 (by assumption) | (rw [rTo_ok h.1 h.2.1 h.2.2.1] at h87; simp at h87))]
    have q28 := Chg.step (l := 0) (h := 0) (Chg.zero (l := 0) (h := 0) ((((cb2.t cb4).t c11).t c16).t c22)) cw24 (by omega)
    exact ⟨_, rfl, Own.nil _ _ _ _ _, by simp [noS], q28⟩
   ·
    have hI := Decidable.not_not.1 h83
    have hS := Decidable.not_not.1 h83x1
    have hM := Decidable.not_not.1 h83x2
    obtain ⟨x1, rfl, rfl, hx1⟩ := hI.int
    have hls : (dg sp.natAbs).length ≤ 1 := dg_len_le (by simp only [Bs]; omega)
    refine sx_skip ?_
    refine q_n (k6 _ _ ?_)
    refine sx_seq fun K29 k29 => ?_
    refine sx_cut k29 (fun fr w' => ∃ (gb30x0 : Nat) (gs30x1 : Value) (gl30x1 : Nat) (gu30x1 : Nat) (gs30x2 : Value) (gl30x2 : Nat) (gu30x2 : Nat), fr = [(1, .int .i64 sp), (2, .int .i64 m), (3, .pointer (some ⟨b2, 0, none⟩)), (6, .pointer (some ⟨b4, 0, none⟩)), (7, .bool false), (8, .pointer (some ⟨gb30x0, 0, none⟩)), (9, .bool ((rMake (ng x1) (dg x1.natAbs) (ng sp) (dg (sp).natAbs)).2.2.2))] ∧ Chg 0 0 w22 w' ∧ (Blk w' gb30x0 [.bool ((rMake (ng x1) (dg x1.natAbs) (ng sp) (dg (sp).natAbs)).1), gs30x1, gs30x2] 53) ∧ (Own w' gl30x1 gu30x1 gs30x1 intT (((rMake (ng x1) (dg x1.natAbs) (ng sp) (dg (sp).natAbs)).2.1).length) 1 (((rMake (ng x1) (dg x1.natAbs) (ng sp) (dg (sp).natAbs)).2.1).map (Value.int .i64))) ∧ (Own w' gl30x2 gu30x2 gs30x2 intT (((rMake (ng x1) (dg x1.natAbs) (ng sp) (dg (sp).natAbs)).2.2.1).length) 1 (((rMake (ng x1) (dg x1.natAbs) (ng sp) (dg (sp).natAbs)).2.2.1).map (Value.int .i64))) ∧ (w22.heap.size ≤ gb30x0 ∧ gb30x0 + 1 ≤ w'.heap.size) ∧ (w22.heap.size ≤ gl30x1 ∧ gu30x1 ≤ w'.heap.size) ∧ (w22.heap.size ≤ gl30x2 ∧ gu30x2 ≤ w'.heap.size) ∧ (gu30x1 ≤ gb30x0 ∨ gb30x0 + 1 ≤ gl30x1) ∧ (gu30x2 ≤ gb30x0 ∨ gb30x0 + 1 ≤ gl30x2) ∧ (gu30x2 ≤ gl30x1 ∨ gu30x1 ≤ gl30x2)) (fun kc30 => ?_) ?_
    ·
     have f31 := f8.ext c11
     have f32 := f31.ext c16
     have f33 := f32.ext c22
     have f34 := fb4.ext c11
     have f35 := f34.ext c16
     have f36 := f35.ext c22
     have f37 := f10.ext c11
     have f38 := f37.ext c16
     have f39 := f38.ext c22
     refine dx_region (fun w' => Chg 0 0 w22 w') (by kernel_rfl) (Chg.zero (Chg.drew _)) ?_
     have d40 := Chg.drew w22
     have s40 : Chg 0 0 w22 (World.drew w22) := Chg.zero (Chg.drew _)
     have y40 : (World.drew w22).heap.size = w22.heap.size := rfl
     generalize World.drew w22 = w40 at *
     have zw40 := d40.size
     refine dx_take 0 rfl rfl rfl rfl (by kernel_rfl) (by kernel_rfl) (by kernel_rfl) s40 (fun _ hS => px_load rfl ((f33.chg hS (by omega)).loadA (vs := [.bool (ng x1), v1]) (look_lit rfl) Try.isAgg29 Try.sizeOf29)) ?_
     refine dx_take 1 rfl rfl rfl rfl (by kernel_rfl) (by kernel_rfl) (by kernel_rfl) s40 (fun _ hS => px_move rfl) ?_
     refine dx_eff2 2 7 rfl rfl (by kernel_rfl) ?_ ?_
     ·
      refine sx_call rfl rfl Try.call99 (c_sIntOf (by omega)) (fun v41 w41 p41 => ?_)
      obtain ⟨s41, rfl, os_41, c41⟩ := p41
      have zw41 := c41.size
      have s42 : Chg 0 0 w22 w41 := (d40.t c41)
      refine wl_nil ?_
      refine dx_next s42 ?_
      refine dx_eff2 3 7 rfl rfl (by kernel_rfl) ?_ ?_
      ·
       have f43 := f39.ext d40
       have f44 := f43.ext c41
       refine sx_call rfl rfl Try.call95 (c_sRatMake f44 os_41.sv (by omega)) (fun v45 w45 p45 => ?_)
       obtain ⟨s45, t45, ls45, us45, lt45, ut45, rfl, os_45, ot_45, hd45, hl45, c45⟩ := p45
       have zw45 := c45.size
       have s46 : Chg 0 0 w22 w45 := ((d40.t c41).t c45)
       refine wl_nil ?_
       refine dx_next s46 ?_
       refine dx_take 4 rfl rfl rfl rfl (by kernel_rfl) (by kernel_rfl) (by kernel_rfl) s46 (fun _ hS => px_move rfl) ?_
       refine dx_take 5 rfl rfl rfl rfl (by kernel_rfl) (by kernel_rfl) (by kernel_rfl) s46 (fun _ hS => px_extract (vs := [.agg #[.bool ((rMake (ng x1) (dg x1.natAbs) (ng sp) (dg (sp).natAbs)).1), s45, t45], .bool ((rMake (ng x1) (dg x1.natAbs) (ng sp) (dg (sp).natAbs)).2.2.2)]) rfl rfl) ?_
       refine dx_take 6 rfl rfl rfl rfl (by kernel_rfl) (by kernel_rfl) (by kernel_rfl) s46 (fun _ hS => px_extract (vs := [.agg #[.bool ((rMake (ng x1) (dg x1.natAbs) (ng sp) (dg (sp).natAbs)).1), s45, t45], .bool ((rMake (ng x1) (dg x1.natAbs) (ng sp) (dg (sp).natAbs)).2.2.2)]) rfl rfl) ?_
       refine dx_eff 7 rfl (by kernel_rfl) ?_
       refine sx_alloc [.bool false, (.slice none 0 0), (.slice none 0 0)] rfl Try.zeroValue53 rfl (fun b47 w48 eb47 sb47 fb47 cb47 => ?_)
       have zw48 := cb47.size
       have s49 : Chg 0 0 w22 w48 := (((d40.t c41).t c45).t cb47)
       refine wl_nil ?_
       refine dx_next s49 ?_
       refine dx_eff 8 rfl (by kernel_rfl) ?_
       have f51 := ot_45.ext cb47
       have f52 := os_45.ext cb47
       refine sx_store (vs := [.bool ((rMake (ng x1) (dg x1.natAbs) (ng sp) (dg (sp).natAbs)).1), s45, t45]) rfl rfl fb47 rfl Try.sizeOf53 (Nat.le_of_ble_eq_true rfl) (one_cons rfl (one_cons f52.one (one_cons f51.one one_nil))) (fun w50 sw50 fw50 cw50 => ?_)
       have zw50 := cw50.size
       have gw50 : Blk w50 b47 [.bool ((rMake (ng x1) (dg x1.natAbs) (ng sp) (dg (sp).natAbs)).1), s45, t45] 53 := fw50
       have q54 := Chg.step (l := 0) (h := 0) (Chg.zero (l := 0) (h := 0) (((d40.t c41).t c45).t cb47)) cw50 (by omega)
       have s53 : Chg 0 0 w22 w50 := q54
       refine wl_nil ?_
       refine dx_next s53 ?_
       refine dx_take 9 rfl rfl rfl rfl (by kernel_rfl) (by kernel_rfl) (by kernel_rfl) s53 (fun _ hS => px_assign rfl) ?_
       refine dx_done (by kernel_rfl) ?_
       have f55 := f52.chg cw50 (by omega)
       have f56 := f51.chg cw50 (by omega)
       have q57 := Chg.step (l := 0) (h := 0) (Chg.zero (l := 0) (h := 0) (((d40.t c41).t c45).t cb47)) cw50 (by omega)
       exact q_n (kw_sub (Sub.cons (t := 1) rfl (.cons (t := 2) rfl (.cons (t := 3) rfl (.cons (t := 6) rfl (.cons (t := 7) rfl (.cons (t := 8) rfl (.cons (t := 9) rfl (.nil)))))))) (kc30 _ _ ⟨b47, s45, ls45, us45, t45, lt45, ut45, rfl, q57, gw50, f55, f56, by omega, by omega, by omega, by omega, by omega, by omega⟩))
      ·
       refine sx_alloc [.bool false, (.slice none 0 0), (.slice none 0 0)] rfl Try.zeroValue53 rfl (fun b58 w59 eb58 sb58 fb58 cb58 => ?_)
       have zw59 := cb58.size
       have s60 : Chg 0 0 w22 w59 := ((d40.t c41).t cb58)
       refine wl_nil ?_
       refine dx_next s60 ?_
       refine dx_eff 3 rfl (by kernel_rfl) ?_
       have f61 := f39.ext d40
       have f62 := f61.ext c41
       have f63 := f62.ext cb58
       have f64 := os_41.ext cb58
       refine sx_call rfl rfl Try.call95 (c_sRatMake f63 f64.sv (by omega)) (fun v65 w65 p65 => ?_)
       obtain ⟨s65, t65, ls65, us65, lt65, ut65, rfl, os_65, ot_65, hd65, hl65, c65⟩ := p65
       have zw65 := c65.size
       have s66 : Chg 0 0 w22 w65 := (((d40.t c41).t cb58).t c65)
       refine wl_nil ?_
       refine dx_next s66 ?_
       refine dx_take 4 rfl rfl rfl rfl (by kernel_rfl) (by kernel_rfl) (by kernel_rfl) s66 (fun _ hS => px_move rfl) ?_
       refine dx_take 5 rfl rfl rfl rfl (by kernel_rfl) (by kernel_rfl) (by kernel_rfl) s66 (fun _ hS => px_extract (vs := [.agg #[.bool ((rMake (ng x1) (dg x1.natAbs) (ng sp) (dg (sp).natAbs)).1), s65, t65], .bool ((rMake (ng x1) (dg x1.natAbs) (ng sp) (dg (sp).natAbs)).2.2.2)]) rfl rfl) ?_
       refine dx_take 6 rfl rfl rfl rfl (by kernel_rfl) (by kernel_rfl) (by kernel_rfl) s66 (fun _ hS => px_extract (vs := [.agg #[.bool ((rMake (ng x1) (dg x1.natAbs) (ng sp) (dg (sp).natAbs)).1), s65, t65], .bool ((rMake (ng x1) (dg x1.natAbs) (ng sp) (dg (sp).natAbs)).2.2.2)]) rfl rfl) ?_
       refine dx_eff 8 rfl (by kernel_rfl) ?_
       have f68 := fb58.ext c65
       refine sx_store (vs := [.bool ((rMake (ng x1) (dg x1.natAbs) (ng sp) (dg (sp).natAbs)).1), s65, t65]) rfl rfl f68 rfl Try.sizeOf53 (Nat.le_of_ble_eq_true rfl) (one_cons rfl (one_cons os_65.one (one_cons ot_65.one one_nil))) (fun w67 sw67 fw67 cw67 => ?_)
       have zw67 := cw67.size
       have gw67 : Blk w67 b58 [.bool ((rMake (ng x1) (dg x1.natAbs) (ng sp) (dg (sp).natAbs)).1), s65, t65] 53 := fw67
       have q70 := Chg.step (l := 0) (h := 0) (Chg.zero (l := 0) (h := 0) (((d40.t c41).t cb58).t c65)) cw67 (by omega)
       have s69 : Chg 0 0 w22 w67 := q70
       refine wl_nil ?_
       refine dx_next s69 ?_
       refine dx_take 9 rfl rfl rfl rfl (by kernel_rfl) (by kernel_rfl) (by kernel_rfl) s69 (fun _ hS => px_assign rfl) ?_
       refine dx_done (by kernel_rfl) ?_
       have f71 := os_65.chg cw67 (by omega)
       have f72 := ot_65.chg cw67 (by omega)
       have q73 := Chg.step (l := 0) (h := 0) (Chg.zero (l := 0) (h := 0) (((d40.t c41).t cb58).t c65)) cw67 (by omega)
       exact q_n (kw_sub (Sub.cons (t := 1) rfl (.cons (t := 2) rfl (.cons (t := 3) rfl (.cons (t := 6) rfl (.cons (t := 7) rfl (.cons (t := 8) rfl (.cons (t := 9) rfl (.nil)))))))) (kc30 _ _ ⟨b58, s65, ls65, us65, t65, lt65, ut65, rfl, q73, gw67, f71, f72, by omega, by omega, by omega, by omega, by omega, by omega⟩))
     ·
      refine sx_alloc [.bool false, (.slice none 0 0), (.slice none 0 0)] rfl Try.zeroValue53 rfl (fun b74 w75 eb74 sb74 fb74 cb74 => ?_)
      have zw75 := cb74.size
      have s76 : Chg 0 0 w22 w75 := (d40.t cb74)
      refine wl_nil ?_
      refine dx_next s76 ?_
      refine dx_eff 2 rfl (by kernel_rfl) ?_
      refine sx_call rfl rfl Try.call99 (c_sIntOf (by omega)) (fun v77 w77 p77 => ?_)
      obtain ⟨s77, rfl, os_77, c77⟩ := p77
      have zw77 := c77.size
      have s78 : Chg 0 0 w22 w77 := ((d40.t cb74).t c77)
      refine wl_nil ?_
      refine dx_next s78 ?_
      refine dx_eff 3 rfl (by kernel_rfl) ?_
      have f79 := f39.ext d40
      have f80 := f79.ext cb74
      have f81 := f80.ext c77
      refine sx_call rfl rfl Try.call95 (c_sRatMake f81 os_77.sv (by omega)) (fun v82 w82 p82 => ?_)
      obtain ⟨s82, t82, ls82, us82, lt82, ut82, rfl, os_82, ot_82, hd82, hl82, c82⟩ := p82
      have zw82 := c82.size
      have s83 : Chg 0 0 w22 w82 := (((d40.t cb74).t c77).t c82)
      refine wl_nil ?_
      refine dx_next s83 ?_
      refine dx_take 4 rfl rfl rfl rfl (by kernel_rfl) (by kernel_rfl) (by kernel_rfl) s83 (fun _ hS => px_move rfl) ?_
      refine dx_take 5 rfl rfl rfl rfl (by kernel_rfl) (by kernel_rfl) (by kernel_rfl) s83 (fun _ hS => px_extract (vs := [.agg #[.bool ((rMake (ng x1) (dg x1.natAbs) (ng sp) (dg (sp).natAbs)).1), s82, t82], .bool ((rMake (ng x1) (dg x1.natAbs) (ng sp) (dg (sp).natAbs)).2.2.2)]) rfl rfl) ?_
      refine dx_take 6 rfl rfl rfl rfl (by kernel_rfl) (by kernel_rfl) (by kernel_rfl) s83 (fun _ hS => px_extract (vs := [.agg #[.bool ((rMake (ng x1) (dg x1.natAbs) (ng sp) (dg (sp).natAbs)).1), s82, t82], .bool ((rMake (ng x1) (dg x1.natAbs) (ng sp) (dg (sp).natAbs)).2.2.2)]) rfl rfl) ?_
      refine dx_eff 8 rfl (by kernel_rfl) ?_
      have f85 := fb74.ext c77
      have f86 := f85.ext c82
      refine sx_store (vs := [.bool ((rMake (ng x1) (dg x1.natAbs) (ng sp) (dg (sp).natAbs)).1), s82, t82]) rfl rfl f86 rfl Try.sizeOf53 (Nat.le_of_ble_eq_true rfl) (one_cons rfl (one_cons os_82.one (one_cons ot_82.one one_nil))) (fun w84 sw84 fw84 cw84 => ?_)
      have zw84 := cw84.size
      have gw84 : Blk w84 b74 [.bool ((rMake (ng x1) (dg x1.natAbs) (ng sp) (dg (sp).natAbs)).1), s82, t82] 53 := fw84
      have q88 := Chg.step (l := 0) (h := 0) (Chg.zero (l := 0) (h := 0) (((d40.t cb74).t c77).t c82)) cw84 (by omega)
      have s87 : Chg 0 0 w22 w84 := q88
      refine wl_nil ?_
      refine dx_next s87 ?_
      refine dx_take 9 rfl rfl rfl rfl (by kernel_rfl) (by kernel_rfl) (by kernel_rfl) s87 (fun _ hS => px_assign rfl) ?_
      refine dx_done (by kernel_rfl) ?_
      have f89 := os_82.chg cw84 (by omega)
      have f90 := ot_82.chg cw84 (by omega)
      have q91 := Chg.step (l := 0) (h := 0) (Chg.zero (l := 0) (h := 0) (((d40.t cb74).t c77).t c82)) cw84 (by omega)
      exact q_n (kw_sub (Sub.cons (t := 1) rfl (.cons (t := 2) rfl (.cons (t := 3) rfl (.cons (t := 6) rfl (.cons (t := 7) rfl (.cons (t := 8) rfl (.cons (t := 9) rfl (.nil)))))))) (kc30 _ _ ⟨b74, s82, ls82, us82, t82, lt82, ut82, rfl, q91, gw84, f89, f90, by omega, by omega, by omega, by omega, by omega, by omega⟩))
    ·
     rintro fr w'30 ⟨gb30x0, gs30x1, gl30x1, gu30x1, gs30x2, gl30x2, gu30x2, rfl, cw'30, xgb30x0, xgs30x1, xgs30x2, ygb30x0, ygl30x1, ygl30x2, dgl30x1xgb30x0, dgl30x2xgb30x0, dgl30x2xgl30x1⟩
     have zw'30 := cw'30.size
     refine sx_seq fun K92 k92 => ?_
     refine sx_seq fun K93 k93 => sx_region ?_
     refine sm rfl rfl rfl rfl ?_
     refine sx_pure rfl rfl rfl (px_not rfl) ?_
     refine sm rfl rfl rfl rfl ?_
     refine sx_tmpB (t := 33) rfl (fun h87 => ?_) (fun h87 => ?_)
     ·
      refine sx_guardF rfl rfl rfl rfl rfl rfl ?_
      refine sx_guardF rfl rfl rfl rfl rfl rfl ?_
      refine sx_guardF rfl rfl rfl rfl rfl rfl ?_
      refine sx_guardF rfl rfl rfl rfl rfl rfl ?_
      refine sx_pure rfl rfl rfl (px_pick rfl rfl) ?_
      refine wl_nil (q_n (k93 _ _ ?_))
      refine sx_sub (Sub.cons (t := 1) rfl (.cons (t := 2) rfl (.cons (t := 6) rfl (.cons (t := 7) rfl (.cons (t := 8) rfl (.cons (t := 38) rfl (.nil))))))) ?_
      refine sx_condT rfl ?_
      refine sx_seq fun K94 k94 => sx_region ?_
      refine sx_pure rfl rfl rfl (px_build rfl (xbld29x  _)) ?_
      have f96 := fb4.ext c11
      have f97 := f96.ext c16
      have f98 := f97.ext c22
      have f99 := f98.ext cw'30
      refine sx_store (vs := [.bool false, (.slice none 0 0)]) rfl rfl f99 rfl Try.sizeOf29 (Nat.le_of_ble_eq_true rfl) (one_cons rfl (one_cons rfl one_nil)) (fun w95 sw95 fw95 cw95 => ?_)
      have zw95 := cw95.size
      have gw95 : Blk w95 b4 [.bool false, (.slice none 0 0)] 29 := fw95
      refine sa rfl rfl rfl rfl ?_
      refine wl_nil (q_n (k94 _ _ ?_))
      refine sx_retc ?_
      refine q_r (sx_ret2 Try.results53 ⟨_, rfl, gw95.loadA (vs := [.bool false, (.slice none 0 0)]) (look_lit rfl) Try.isAgg29 Try.sizeOf29⟩ rfl ?_)
      rw [roundTo_no (fun h => by first | exact absurd h.1 (by assumption) | omega | exact absurd h.2.2.2 (by assumption) | (rw [rTo_ok h.1 h.2.1 h.2.2.1] at h87; simp at h87))]
      have q100 := Chg.step (l := 0) (h := 0) (Chg.zero (l := 0) (h := 0) (((((cb2.t cb4).t c11).t c16).t c22).t cw'30)) cw95 (by omega)
      exact ⟨_, rfl, Own.nil _ _ _ _ _, by simp [noS], q100⟩
     ·
      refine sx_guardT rfl rfl rfl ?_
      refine sx_pure rfl rfl rfl (px_field rfl xfld29x1) ?_
      refine sx_guardT rfl rfl rfl ?_
      have f101 := f8.ext c11
      have f102 := f101.ext c16
      have f103 := f102.ext c22
      have f104 := f103.ext cw'30
      refine sx_pure rfl rfl rfl (px_load rfl (f104.load1 rfl Try.isAgg22)) ?_
      refine sx_guardT rfl rfl rfl ?_
      have f105 := f10.ext c11
      have f106 := f105.ext c16
      have f107 := f106.ext c22
      have f108 := f107.ext cw'30
      refine sx_pure rfl rfl rfl (px_len rfl Try.underlying22 f108) ?_
      refine sx_guardT rfl rfl rfl ?_
      refine sx_pure rfl rfl rfl (px_gt rfl rfl) ?_
      refine sx_pure rfl rfl rfl (px_pick rfl rfl) ?_
      refine wl_nil (q_n (k93 _ _ ?_))
      refine sx_sub (Sub.cons (t := 1) rfl (.cons (t := 2) rfl (.cons (t := 6) rfl (.cons (t := 7) rfl (.cons (t := 8) rfl (.cons (t := 38) rfl (.nil))))))) ?_
      refine sx_condP rfl (fun h87x1 => ?_) (fun h87x1 => ?_)
      ·
       refine sx_seq fun K109 k109 => sx_region ?_
       refine sx_pure rfl rfl rfl (px_build rfl (xbld29x  _)) ?_
       have f111 := fb4.ext c11
       have f112 := f111.ext c16
       have f113 := f112.ext c22
       have f114 := f113.ext cw'30
       refine sx_store (vs := [.bool false, (.slice none 0 0)]) rfl rfl f114 rfl Try.sizeOf29 (Nat.le_of_ble_eq_true rfl) (one_cons rfl (one_cons rfl one_nil)) (fun w110 sw110 fw110 cw110 => ?_)
       have zw110 := cw110.size
       have gw110 : Blk w110 b4 [.bool false, (.slice none 0 0)] 29 := fw110
       refine sa rfl rfl rfl rfl ?_
       refine wl_nil (q_n (k109 _ _ ?_))
       refine sx_retc ?_
       refine q_r (sx_ret2 Try.results53 ⟨_, rfl, gw110.loadA (vs := [.bool false, (.slice none 0 0)]) (look_lit rfl) Try.isAgg29 Try.sizeOf29⟩ rfl ?_)
       rw [roundTo_no (fun h => by first | exact absurd h.1 (by assumption) | omega | exact absurd h.2.2.2 (by assumption) | (rw [rTo_ok h.1 h.2.1 h.2.2.1] at h87; simp at h87))]
       have q115 := Chg.step (l := 0) (h := 0) (Chg.zero (l := 0) (h := 0) (((((cb2.t cb4).t c11).t c16).t c22).t cw'30)) cw110 (by omega)
       exact ⟨_, rfl, Own.nil _ _ _ _ _, by simp [noS], q115⟩
      ·
       have hre := rTo_ok hI (by omega) (show 1 ≤ sp ∧ sp ≤ 1000000 by omega)
       have hr1 := congrArg (·.1) hre
       have hr2 := congrArg (·.2.1) hre
       have hr3 := congrArg (·.2.2.1) hre
       simp only at hr1 hr2 hr3
       have f116 := xgs30x1
       rw [hr2] at f116
       have f117 := xgs30x2
       rw [hr3] at f117
       have f118 := xgb30x0
       rw [hr1] at f118
       have hl0 : 0 < sp.toNat := by omega
       have hgc := gcd_pos_r (m := x1.natAbs) hl0
       have hld := len_div sp.toNat (Nat.gcd x1.natAbs sp.toNat)
       have hln := len_div x1.natAbs (Nat.gcd x1.natAbs sp.toNat)
       have hle : (dg (lowN x1 sp.toNat).natAbs).length ≤ 18 := by rw [lowN_abs]; omega
       have hls2 := len_u64 (n := sp) (by omega)
       have hle2 : (dg (lowD x1 sp.toNat)).length ≤ 3 := by show (dg (sp.toNat / Nat.gcd x1.natAbs sp.toNat)).length ≤ 3; omega
       have hlp : 0 < lowD x1 sp.toNat := Nat.div_pos (Nat.gcd_le_right _ hl0) hgc
       have hrq2 : (dg (rqI (lowN x1 sp.toNat) (lowD x1 sp.toNat) m).natAbs).length ≤ 19 := by unfold rqI; rw [sgI_abs]; exact rq_len (by omega)
       refine sx_skip ?_
       refine q_n (k92 _ _ ?_)
       refine sx_seq fun K119 k119 => sx_region ?_
       refine sx_pure rfl rfl rfl (px_load rfl (f118.loadA (vs := [.bool (ng (lowN x1 (sp).toNat)), gs30x1, gs30x2]) (look_lit rfl) Try.isAgg53 Try.sizeOf53)) ?_
       refine sm rfl rfl rfl rfl ?_
       refine sx_call rfl rfl Try.call100 (c_l06Round f116.sv f117.sv (by omega) (by omega) (by omega) (by omega)) (fun v120 w120 p120 => ?_)
       obtain ⟨s120, rfl, os_120, c120⟩ := p120
       have zw120 := c120.size
       refine sm rfl rfl rfl rfl ?_
       refine sx_call rfl rfl Try.call99 (c_sIntOf (by omega)) (fun v121 w121 p121 => ?_)
       obtain ⟨s121, rfl, os_121, c121⟩ := p121
       have zw121 := c121.size
       have f122 := os_120.ext c121
       refine sx_call rfl rfl Try.call67 (c_IntMulE f122.sv os_121.sv (by omega)) (fun v123 w123 p123 => ?_)
       obtain ⟨s123, rfl, os_123, c123⟩ := p123
       have zw123 := c123.size
       have f125 := fb4.ext c11
       have f126 := f125.ext c16
       have f127 := f126.ext c22
       have f128 := f127.ext cw'30
       have f129 := f128.ext c120
       have f130 := f129.ext c121
       have f131 := f130.ext c123
       refine sx_store (vs := [.bool (ng ((rqI (lowN x1 (sp).toNat) (lowD x1 (sp).toNat) m) * (sp))), s123]) rfl rfl f131 rfl Try.sizeOf29 (Nat.le_of_ble_eq_true rfl) (one_cons rfl (one_cons os_123.one one_nil)) (fun w124 sw124 fw124 cw124 => ?_)
       have zw124 := cw124.size
       have gw124 : Blk w124 b4 [.bool (ng ((rqI (lowN x1 (sp).toNat) (lowD x1 (sp).toNat) m) * (sp))), s123] 29 := fw124
       refine sa rfl rfl rfl rfl ?_
       refine wl_nil (q_n (k119 _ _ ?_))
       refine sx_retc ?_
       refine sx_ret2 Try.results53 ⟨_, rfl, gw124.loadA (vs := [.bool (ng ((rqI (lowN x1 (sp).toNat) (lowD x1 (sp).toNat) m) * (sp))), s123]) (look_lit rfl) Try.isAgg29 Try.sizeOf29⟩ rfl ?_
       have hrl := roundTo_len (n := ng x1) (z := dg x1.natAbs) (s := sp) (m := m)
       rw [roundTo_ok ⟨hI, by omega, by omega, hM⟩, ← rqI_low x1 hl0] at hrl ⊢
       have q132 := Chg.step (l := 0) (h := 0) (Chg.zero (l := 0) (h := 0) ((((((((cb2.t cb4).t c11).t c16).t c22).t cw'30).t c120).t c121).t c123)) cw124 (by omega)
       have f133 := os_123.chg cw124 (by omega)
       exact ⟨_, rfl, (Own.mono f133 (by omega) (by omega)), hrl, q132⟩

theorem c_iRoundTo {w : World} {n1 : Bool} {v1 : Value} {lv1 uv1 : Nat} {z1 : List Int} {sp : Int} {m : Int} (hv1 : Sl w lv1 uv1 v1 (z1)) (h63 : z1.length ≤ 4611686018427387904) :
  Ret Try.prog 54 [.agg #[.bool n1, v1], .int .i64 sp, .int .i64 m] w fun v w' => ∃ s, v = .tuple #[.agg #[.bool ((roundTo n1 z1 sp m).1), s], .bool ((roundTo n1 z1 sp m).2.2)] ∧ OwnI w' w.heap.size w'.heap.size s intT ((roundTo n1 z1 sp m).2.1) ∧ ((roundTo n1 z1 sp m).2.1.length ≤ 20) ∧ Chg 0 0 w w' := by
 have hv10 := hv1.fit
 refine sx_enter Try.func54 rfl Try.ntmps54 (Nat.le_of_ble_eq_true rfl) ?_
 refine sx_seq fun K1 k1 => sx_region ?_
 refine sx_box [.bool n1, v1] rfl rfl rfl (fun b2 w3 eb2 sb2 fb2 cb2 => ?_)
 have zw3 := cb2.size
 refine sx_alloc [.bool false, (.slice none 0 0)] rfl Try.zeroValue29 rfl (fun b4 w5 eb4 sb4 fb4 cb4 => ?_)
 have zw5 := cb4.size
 refine sa rfl rfl rfl rfl ?_
 refine wl_nil (q_n (k1 _ _ ?_))
 refine sx_seq fun K6 k6 => ?_
 refine sx_seq fun K7 k7 => sx_region ?_
 have f8 := fb2.ext cb4
 refine sx_pure rfl rfl rfl (px_load rfl (f8.loadA (vs := [.bool n1, v1]) (look_lit rfl) Try.isAgg29 Try.sizeOf29)) ?_
 have f9 := hv10.ext cb2
 have f10 := f9.ext cb4
 refine sx_call rfl rfl Try.call62 (c_iIntOk f10 (by omega)) (fun v11 w11 p11 => ?_)
 obtain ⟨rfl, c11⟩ := p11
 have zw11 := c11.size
 refine sx_pure rfl rfl rfl (px_notP rfl) ?_
 refine sm rfl rfl rfl rfl ?_
 refine sx_tmpP (t := 13) rfl (fun h96 => ?_) (fun h96 => ?_)
 ·
  refine sx_guardF rfl rfl rfl rfl rfl rfl ?_
  refine sx_guardF rfl rfl rfl rfl rfl rfl ?_
  refine sx_guardF rfl rfl rfl rfl rfl rfl ?_
  refine sx_guardF rfl rfl rfl rfl rfl rfl ?_
  refine sx_pure rfl rfl rfl (px_pick rfl rfl) ?_
  refine sm rfl rfl rfl rfl ?_
  refine sx_guardF rfl rfl rfl rfl rfl rfl ?_
  refine sx_guardF rfl rfl rfl rfl rfl rfl ?_
  refine sx_pure rfl rfl rfl (px_pick rfl rfl) ?_
  refine sm rfl rfl rfl rfl ?_
  refine sx_guardF rfl rfl rfl rfl rfl rfl ?_
  refine sx_guardF rfl rfl rfl rfl rfl rfl ?_
  refine sx_pure rfl rfl rfl (px_pick rfl rfl) ?_
  refine sm rfl rfl rfl rfl ?_
  refine sx_guardF rfl rfl rfl rfl rfl rfl ?_
  refine sx_guardF rfl rfl rfl rfl rfl rfl ?_
  refine sx_guardF rfl rfl rfl rfl rfl rfl ?_
  refine sx_pure rfl rfl rfl (px_pick rfl rfl) ?_
  refine wl_nil (q_n (k7 _ _ ?_))
  refine sx_sub (Sub.cons (t := 1) rfl (.cons (t := 2) rfl (.cons (t := 3) rfl (.cons (t := 6) rfl (.cons (t := 7) rfl (.cons (t := 31) rfl (.nil))))))) ?_
  refine sx_condT rfl ?_
  refine sx_seq fun K12 k12 => sx_region ?_
  refine sx_pure rfl rfl rfl (px_build rfl (xbld29x  _)) ?_
  have f14 := fb4.ext c11
  refine sx_store (vs := [.bool false, (.slice none 0 0)]) rfl rfl f14 rfl Try.sizeOf29 (Nat.le_of_ble_eq_true rfl) (one_cons rfl (one_cons rfl one_nil)) (fun w13 sw13 fw13 cw13 => ?_)
  have zw13 := cw13.size
  have gw13 : Blk w13 b4 [.bool false, (.slice none 0 0)] 29 := fw13
  refine sa rfl rfl rfl rfl ?_
  refine wl_nil (q_n (k12 _ _ ?_))
  refine sx_retc ?_
  refine q_r (sx_ret2 Try.results54 ⟨_, rfl, gw13.loadA (vs := [.bool false, (.slice none 0 0)]) (look_lit rfl) Try.isAgg29 Try.sizeOf29⟩ rfl ?_)
  rw [roundTo_no (fun h => by first | exact absurd h.1 (by assumption) | omega | exact absurd h.2.2.2 (by assumption) | (rw [rTo_ok h.1 h.2.1 h.2.2.1] at h87; simp at h87))]
  have q15 := Chg.step (l := 0) (h := 0) (Chg.zero (l := 0) (h := 0) ((cb2.t cb4).t c11)) cw13 (by omega)
  exact ⟨_, rfl, Own.nil _ _ _ _ _, by simp [noS], q15⟩
 ·
  refine sx_guardT rfl rfl rfl ?_
  refine sx_pure rfl rfl rfl (px_field rfl xfld29x1) ?_
  refine sx_guardT rfl rfl rfl ?_
  have f16 := f8.ext c11
  refine sx_pure rfl rfl rfl (px_load rfl (f16.load1 rfl Try.isAgg22)) ?_
  refine sx_guardT rfl rfl rfl ?_
  have f17 := f10.ext c11
  refine sx_pure rfl rfl rfl (px_len rfl Try.underlying22 f17) ?_
  refine sx_guardT rfl rfl rfl ?_
  refine sx_pure rfl rfl rfl (px_gt rfl rfl) ?_
  refine sx_pure rfl rfl rfl (px_pick rfl rfl) ?_
  refine sm rfl rfl rfl rfl ?_
  refine sx_tmpP (t := 19) rfl (fun h96x1 => ?_) (fun h96x1 => ?_)
  ·
   refine sx_guardF rfl rfl rfl rfl rfl rfl ?_
   refine sx_guardF rfl rfl rfl rfl rfl rfl ?_
   refine sx_pure rfl rfl rfl (px_pick rfl rfl) ?_
   refine sm rfl rfl rfl rfl ?_
   refine sx_guardF rfl rfl rfl rfl rfl rfl ?_
   refine sx_guardF rfl rfl rfl rfl rfl rfl ?_
   refine sx_pure rfl rfl rfl (px_pick rfl rfl) ?_
   refine sm rfl rfl rfl rfl ?_
   refine sx_guardF rfl rfl rfl rfl rfl rfl ?_
   refine sx_guardF rfl rfl rfl rfl rfl rfl ?_
   refine sx_guardF rfl rfl rfl rfl rfl rfl ?_
   refine sx_pure rfl rfl rfl (px_pick rfl rfl) ?_
   refine wl_nil (q_n (k7 _ _ ?_))
   refine sx_sub (Sub.cons (t := 1) rfl (.cons (t := 2) rfl (.cons (t := 3) rfl (.cons (t := 6) rfl (.cons (t := 7) rfl (.cons (t := 31) rfl (.nil))))))) ?_
   refine sx_condT rfl ?_
   refine sx_seq fun K18 k18 => sx_region ?_
   refine sx_pure rfl rfl rfl (px_build rfl (xbld29x  _)) ?_
   have f20 := fb4.ext c11
   refine sx_store (vs := [.bool false, (.slice none 0 0)]) rfl rfl f20 rfl Try.sizeOf29 (Nat.le_of_ble_eq_true rfl) (one_cons rfl (one_cons rfl one_nil)) (fun w19 sw19 fw19 cw19 => ?_)
   have zw19 := cw19.size
   have gw19 : Blk w19 b4 [.bool false, (.slice none 0 0)] 29 := fw19
   refine sa rfl rfl rfl rfl ?_
   refine wl_nil (q_n (k18 _ _ ?_))
   refine sx_retc ?_
   refine q_r (sx_ret2 Try.results54 ⟨_, rfl, gw19.loadA (vs := [.bool false, (.slice none 0 0)]) (look_lit rfl) Try.isAgg29 Try.sizeOf29⟩ rfl ?_)
   rw [roundTo_no (fun h => by first | exact absurd h.1 (by assumption) | omega | exact absurd h.2.2.2 (by assumption) | (rw [rTo_ok h.1 h.2.1 h.2.2.1] at h87; simp at h87))]
   have q21 := Chg.step (l := 0) (h := 0) (Chg.zero (l := 0) (h := 0) ((cb2.t cb4).t c11)) cw19 (by omega)
   exact ⟨_, rfl, Own.nil _ _ _ _ _, by simp [noS], q21⟩
  ·
   refine sx_guardT rfl rfl rfl ?_
   refine sm rfl rfl rfl rfl ?_
   refine sx_guardT rfl rfl rfl ?_
   refine sx_pure rfl rfl rfl (px_lt rfl rfl) ?_
   refine sx_pure rfl rfl rfl (px_pick rfl rfl) ?_
   refine sm rfl rfl rfl rfl ?_
   refine sx_tmpP (t := 23) rfl (fun h96x2 => ?_) (fun h96x2 => ?_)
   ·
    refine sx_guardF rfl rfl rfl rfl rfl rfl ?_
    refine sx_guardF rfl rfl rfl rfl rfl rfl ?_
    refine sx_pure rfl rfl rfl (px_pick rfl rfl) ?_
    refine sm rfl rfl rfl rfl ?_
    refine sx_guardF rfl rfl rfl rfl rfl rfl ?_
    refine sx_guardF rfl rfl rfl rfl rfl rfl ?_
    refine sx_guardF rfl rfl rfl rfl rfl rfl ?_
    refine sx_pure rfl rfl rfl (px_pick rfl rfl) ?_
    refine wl_nil (q_n (k7 _ _ ?_))
    refine sx_sub (Sub.cons (t := 1) rfl (.cons (t := 2) rfl (.cons (t := 3) rfl (.cons (t := 6) rfl (.cons (t := 7) rfl (.cons (t := 31) rfl (.nil))))))) ?_
    refine sx_condT rfl ?_
    refine sx_seq fun K22 k22 => sx_region ?_
    refine sx_pure rfl rfl rfl (px_build rfl (xbld29x  _)) ?_
    have f24 := fb4.ext c11
    refine sx_store (vs := [.bool false, (.slice none 0 0)]) rfl rfl f24 rfl Try.sizeOf29 (Nat.le_of_ble_eq_true rfl) (one_cons rfl (one_cons rfl one_nil)) (fun w23 sw23 fw23 cw23 => ?_)
    have zw23 := cw23.size
    have gw23 : Blk w23 b4 [.bool false, (.slice none 0 0)] 29 := fw23
    refine sa rfl rfl rfl rfl ?_
    refine wl_nil (q_n (k22 _ _ ?_))
    refine sx_retc ?_
    refine q_r (sx_ret2 Try.results54 ⟨_, rfl, gw23.loadA (vs := [.bool false, (.slice none 0 0)]) (look_lit rfl) Try.isAgg29 Try.sizeOf29⟩ rfl ?_)
    rw [roundTo_no (fun h => by first | exact absurd h.1 (by assumption) | omega | exact absurd h.2.2.2 (by assumption) | (rw [rTo_ok h.1 h.2.1 h.2.2.1] at h87; simp at h87))]
    have q25 := Chg.step (l := 0) (h := 0) (Chg.zero (l := 0) (h := 0) ((cb2.t cb4).t c11)) cw23 (by omega)
    exact ⟨_, rfl, Own.nil _ _ _ _ _, by simp [noS], q25⟩
   ·
    refine sx_guardT rfl rfl rfl ?_
    refine sm rfl rfl rfl rfl ?_
    refine sx_guardT rfl rfl rfl ?_
    refine sx_pure rfl rfl rfl (px_gt rfl rfl) ?_
    refine sx_pure rfl rfl rfl (px_pick rfl rfl) ?_
    refine sm rfl rfl rfl rfl ?_
    refine sx_tmpP (t := 27) rfl (fun h96x3 => ?_) (fun h96x3 => ?_)
    ·
     refine sx_guardF rfl rfl rfl rfl rfl rfl ?_
     refine sx_guardF rfl rfl rfl rfl rfl rfl ?_
     refine sx_guardF rfl rfl rfl rfl rfl rfl ?_
     refine sx_pure rfl rfl rfl (px_pick rfl rfl) ?_
     refine wl_nil (q_n (k7 _ _ ?_))
     refine sx_sub (Sub.cons (t := 1) rfl (.cons (t := 2) rfl (.cons (t := 3) rfl (.cons (t := 6) rfl (.cons (t := 7) rfl (.cons (t := 31) rfl (.nil))))))) ?_
     refine sx_condT rfl ?_
     refine sx_seq fun K26 k26 => sx_region ?_
     refine sx_pure rfl rfl rfl (px_build rfl (xbld29x  _)) ?_
     have f28 := fb4.ext c11
     refine sx_store (vs := [.bool false, (.slice none 0 0)]) rfl rfl f28 rfl Try.sizeOf29 (Nat.le_of_ble_eq_true rfl) (one_cons rfl (one_cons rfl one_nil)) (fun w27 sw27 fw27 cw27 => ?_)
     have zw27 := cw27.size
     have gw27 : Blk w27 b4 [.bool false, (.slice none 0 0)] 29 := fw27
     refine sa rfl rfl rfl rfl ?_
     refine wl_nil (q_n (k26 _ _ ?_))
     refine sx_retc ?_
     refine q_r (sx_ret2 Try.results54 ⟨_, rfl, gw27.loadA (vs := [.bool false, (.slice none 0 0)]) (look_lit rfl) Try.isAgg29 Try.sizeOf29⟩ rfl ?_)
     rw [roundTo_no (fun h => by first | exact absurd h.1 (by assumption) | omega | exact absurd h.2.2.2 (by assumption) | (rw [rTo_ok h.1 h.2.1 h.2.2.1] at h87; simp at h87))]
     have q29 := Chg.step (l := 0) (h := 0) (Chg.zero (l := 0) (h := 0) ((cb2.t cb4).t c11)) cw27 (by omega)
     exact ⟨_, rfl, Own.nil _ _ _ _ _, by simp [noS], q29⟩
    ·
     refine sx_guardT rfl rfl rfl ?_
     refine sm rfl rfl rfl rfl ?_
     refine sx_guardT rfl rfl rfl ?_
     refine sx_call rfl rfl Try.call101 (c_isMode) (fun v30 w30 p30 => ?_)
     obtain ⟨rfl, c30⟩ := p30
     have zw30 := c30.size
     refine sx_guardT rfl rfl rfl ?_
     refine sx_pure rfl rfl rfl (px_notP rfl) ?_
     refine sx_pure rfl rfl rfl (px_pick rfl rfl) ?_
     refine wl_nil (q_n (k7 _ _ ?_))
     refine sx_sub (Sub.cons (t := 1) rfl (.cons (t := 2) rfl (.cons (t := 3) rfl (.cons (t := 6) rfl (.cons (t := 7) rfl (.cons (t := 31) rfl (.nil))))))) ?_
     refine sx_condP rfl (fun h96x4 => ?_) (fun h96x4 => ?_)
     ·
      refine sx_seq fun K31 k31 => sx_region ?_
      refine sx_pure rfl rfl rfl (px_build rfl (xbld29x  _)) ?_
      have f33 := fb4.ext c11
      have f34 := f33.ext c30
      refine sx_store (vs := [.bool false, (.slice none 0 0)]) rfl rfl f34 rfl Try.sizeOf29 (Nat.le_of_ble_eq_true rfl) (one_cons rfl (one_cons rfl one_nil)) (fun w32 sw32 fw32 cw32 => ?_)
      have zw32 := cw32.size
      have gw32 : Blk w32 b4 [.bool false, (.slice none 0 0)] 29 := fw32
      refine sa rfl rfl rfl rfl ?_
      refine wl_nil (q_n (k31 _ _ ?_))
      refine sx_retc ?_
      refine q_r (sx_ret2 Try.results54 ⟨_, rfl, gw32.loadA (vs := [.bool false, (.slice none 0 0)]) (look_lit rfl) Try.isAgg29 Try.sizeOf29⟩ rfl ?_)
      rw [roundTo_no (fun h => by first | exact absurd h.1 (by assumption) | omega | exact absurd h.2.2.2 (by assumption) | (rw [rTo_ok h.1 h.2.1 h.2.2.1] at h87; simp at h87))]
      have q35 := Chg.step (l := 0) (h := 0) (Chg.zero (l := 0) (h := 0) (((cb2.t cb4).t c11).t c30)) cw32 (by omega)
      exact ⟨_, rfl, Own.nil _ _ _ _ _, by simp [noS], q35⟩
     ·
      have hI := Decidable.not_not.1 h96
      have hM := Decidable.not_not.1 h96x4
      obtain ⟨x1, rfl, rfl, hx1⟩ := hI.int
      have hls := len_u64 (n := sp) (by omega)
      have hrq := rq_len (x := x1) (d := sp.toNat) (k := 18) (m := m) (by omega)
      have hrq2 : (dg (rqI x1 sp.toNat m).natAbs).length ≤ 19 := by unfold rqI; rw [sgI_abs]; exact hrq
      have hrq3 := len_mul (rqI x1 sp.toNat m).natAbs sp.toNat
      refine sx_skip ?_
      refine q_n (k6 _ _ ?_)
      refine sx_seq fun K36 k36 => sx_region ?_
      refine sm rfl rfl rfl rfl ?_
      refine sx_call rfl rfl Try.call92 (c_iNatOf (by omega)) (fun v37 w37 p37 => ?_)
      obtain ⟨s37, rfl, os_37, c37⟩ := p37
      have zw37 := c37.size
      refine sa rfl rfl rfl rfl ?_
      refine wl_nil (q_n (k36 _ _ ?_))
      refine sx_seq fun K38 k38 => sx_region ?_
      have f39 := f16.ext c30
      have f40 := f39.ext c37
      refine sx_pure rfl rfl rfl (px_load rfl (f40.loadA (vs := [.bool (ng x1), v1]) (look_lit rfl) Try.isAgg29 Try.sizeOf29)) ?_
      refine sm rfl rfl rfl rfl ?_
      refine sm rfl rfl rfl rfl ?_
      have f41 := f17.ext c30
      have f42 := f41.ext c37
      refine sx_call rfl rfl Try.call102 (c_roundQuotient f42 os_37.sv (by omega) (by omega) (by omega) (by omega)) (fun v43 w43 p43 => ?_)
      obtain ⟨s43, rfl, os_43, c43⟩ := p43
      have zw43 := c43.size
      refine sx_alloc [.bool false, (.slice none 0 0)] rfl Try.zeroValue29 rfl (fun b44 w45 eb44 sb44 fb44 cb44 => ?_)
      have zw45 := cb44.size
      have f47 := os_43.ext cb44
      refine sx_store (vs := [.bool (ng (rqI x1 ((sp).toNat) m)), s43]) rfl rfl fb44 rfl Try.sizeOf29 (Nat.le_of_ble_eq_true rfl) (one_cons rfl (one_cons f47.one one_nil)) (fun w46 sw46 fw46 cw46 => ?_)
      have zw46 := cw46.size
      have gw46 : Blk w46 b44 [.bool (ng (rqI x1 ((sp).toNat) m)), s43] 29 := fw46
      refine wl_nil (q_n (k38 _ _ ?_))
      refine sx_seq fun K48 k48 => ?_
      have f49 := f40.ext c43
      have f50 := f49.ext cb44
      have f51 := f50.chg cw46 (by omega)
      have f52 := f42.ext c43
      have f53 := f52.ext cb44
      have f54 := f53.chg cw46 (by omega)
      have f55 := os_37.ext c43
      have f56 := f55.ext cb44
      have f57 := f56.chg cw46 (by omega)
      have f58 := f47.chg cw46 (by omega)
      refine dx_region (fun w' => Chg b4 (b4 + 1) w46 w') (by kernel_rfl) (Chg.zero (Chg.drew _)) ?_
      have d59 := Chg.drew w46
      have s59 : Chg b4 (b4 + 1) w46 (World.drew w46) := Chg.zero (Chg.drew _)
      have y59 : (World.drew w46).heap.size = w46.heap.size := rfl
      generalize World.drew w46 = w59 at *
      have zw59 := d59.size
      refine dx_take 0 rfl rfl rfl rfl (by kernel_rfl) (by kernel_rfl) (by kernel_rfl) s59 (fun _ hS => px_field rfl xfld29x0) ?_
      refine dx_take 1 rfl rfl rfl rfl (by kernel_rfl) (by kernel_rfl) (by kernel_rfl) s59 (fun _ hS => px_load rfl ((gw46.chg hS (by omega)).load1 rfl Try.isAgg4)) ?_
      refine dx_take 2 rfl rfl rfl rfl (by kernel_rfl) (by kernel_rfl) (by kernel_rfl) s59 (fun _ hS => px_field rfl xfld29x1) ?_
      refine dx_take 3 rfl rfl rfl rfl (by kernel_rfl) (by kernel_rfl) (by kernel_rfl) s59 (fun _ hS => px_load rfl ((gw46.chg hS (by omega)).load1 rfl Try.isAgg22)) ?_
      refine dx_take 4 rfl rfl rfl rfl (by kernel_rfl) (by kernel_rfl) (by kernel_rfl) s59 (fun _ hS => px_move rfl) ?_
      refine dx_eff 5 rfl (by kernel_rfl) ?_
      have f60 := f58.ext d59
      have f61 := f57.ext d59
      refine sx_call rfl rfl Try.call91 (c_natMul f60.sv f61.sv (by omega) (by omega)) (fun v62 w62 p62 => ?_)
      obtain ⟨s62, rfl, os_62, c62⟩ := p62
      have zw62 := c62.size
      have s63 : Chg b4 (b4 + 1) w46 w62 := (Chg.zero (l := b4) (h := (b4 + 1)) (d59.t c62))
      refine wl_nil ?_
      refine dx_next s63 ?_
      refine dx_eff 6 rfl (by kernel_rfl) ?_
      refine sx_call rfl rfl Try.call90 (c_signed os_62.sv (by omega)) (fun v64 w64 p64 => ?_)
      obtain ⟨rfl, c64⟩ := p64
      have zw64 := c64.size
      have s65 : Chg b4 (b4 + 1) w46 w64 := (Chg.zero (l := b4) (h := (b4 + 1)) ((d59.t c62).t c64))
      refine wl_nil ?_
      refine dx_next s65 ?_
      refine dx_eff 7 rfl (by kernel_rfl) ?_
      have f67 := fb4.ext c11
      have f68 := f67.ext c30
      have f69 := f68.ext c37
      have f70 := f69.ext c43
      have f71 := f70.ext cb44
      have f72 := f71.chg cw46 (by omega)
      have f73 := f72.ext d59
      have f74 := f73.ext c62
      have f75 := f74.ext c64
      have f76 := os_62.ext c64
      refine sx_store (vs := [.bool (nz (ng (rqI x1 ((sp).toNat) m)) (dg (((rqI x1 ((sp).toNat) m).natAbs) * ((sp).toNat)))), v62]) rfl rfl f75 rfl Try.sizeOf29 (Nat.le_of_ble_eq_true rfl) (one_cons rfl (one_cons f76.one one_nil)) (fun w66 sw66 fw66 cw66 => ?_)
      have zw66 := cw66.size
      have gw66 : Blk w66 b4 [.bool (nz (ng (rqI x1 ((sp).toNat) m)) (dg (((rqI x1 ((sp).toNat) m).natAbs) * ((sp).toNat)))), v62] 29 := fw66
      have q78 := Chg.step (l := b4) (h := (b4 + 1)) (Chg.zero (l := b4) (h := (b4 + 1)) ((d59.t c62).t c64)) cw66 (by omega)
      have s77 : Chg b4 (b4 + 1) w46 w66 := q78
      refine wl_nil ?_
      refine dx_next s77 ?_
      refine dx_take 8 rfl rfl rfl rfl (by kernel_rfl) (by kernel_rfl) (by kernel_rfl) s77 (fun _ hS => px_assign rfl) ?_
      refine dx_done (by kernel_rfl) ?_
      refine q_n (k48 _ _ ?_)
      refine sx_sub (Sub.cons (t := 6) rfl (.cons (t := 7) rfl (.nil))) ?_
      refine sx_retc ?_
      refine sx_ret2 Try.results54 ⟨_, rfl, gw66.loadA (vs := [.bool (nz (ng (rqI x1 ((sp).toNat) m)) (dg (((rqI x1 ((sp).toNat) m).natAbs) * ((sp).toNat)))), v62]) (look_lit rfl) Try.isAgg29 Try.sizeOf29⟩ rfl ?_
      have hrl := roundTo_len (n := ng x1) (z := dg x1.natAbs) (s := sp) (m := m)
      rw [roundTo_ok ⟨hI, by omega, by omega, hM⟩] at hrl ⊢
      have hh := mul_sp (Q := rqI x1 sp.toNat m) (s := sp) (by omega)
      simp only [iR] at hrl ⊢
      rw [← hh.1, ← hh.2]
      have q79 := Chg.step (l := 0) (h := 0) (Chg.zero (l := 0) (h := 0) ((((((cb2.t cb4).t c11).t c30).t c37).t c43).t cb44)) cw46 (by omega)
      have q80 := Chg.step (l := 0) (h := 0) q79 ((d59.t c62).t c64) (by omega)
      have q81 := Chg.step (l := 0) (h := 0) q80 cw66 (by omega)
      have f82 := f76.chg cw66 (by omega)
      exact ⟨_, rfl, (Own.mono f82 (by omega) (by omega)), by rw [hh.2]; exact hrl, q81⟩

end Go.Proofs.Yteiifmkclokgnaa
