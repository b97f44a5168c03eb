/- Contracts of functions of the program: what each call returns, and that it changes nothing that was. Conditions: as each says. -/
import Derived.Test.YtfoceofnldnbgaaTy
import Derived.Test.YtfoceofnldnbgaaNatK
import Derived.Test.YtfoceofnldnbgaaRm
import Derived.Test.YtfoceofnldnbgaaK0
import Derived.Test.YtfoceofnldnbgaaK1
import Derived.Test.YtfoceofnldnbgaaK2
import Derived.Test.YtfoceofnldnbgaaK3
set_option linter.unusedVariables false
set_option linter.unusedSimpArgs false
namespace Go.Proofs.Ytfoceofnldnbgaa
open Go Go.RowKit
set_option maxRecDepth 100000
theorem c_natSub {w : World} {va : Value} {lva uva : Nat} {m : Nat} {vb : Value} {lvb uvb : Nat} {n : Nat} (hva : Sl w lva uva va (dg m)) (hvb : Sl w lvb uvb vb (dg n)) (hbm : (dg m).length ≤ 1000) (hbn : (dg n).length ≤ 1000) (hle : n ≤ m) :
  Ret Try.prog 127 [va, vb] w fun v w' => ∃ s, v = s ∧ OwnI w' w.heap.size w'.heap.size s intT (dg (m - n)) ∧ Chg 0 0 w w' := by
 have hva0 := hva.fit
 have hvb0 := hvb.fit
 refine sx_enter Try.func127 rfl Try.ntmps127 (Nat.le_of_ble_eq_true rfl) ?_
 refine sx_seq fun K1 k1 => sx_region ?_
 refine sa rfl rfl rfl rfl ?_
 refine wl_nil (q_n (k1 _ _ ?_))
 refine sx_seq fun K2 k2 => sx_region ?_
 refine sm rfl rfl rfl rfl ?_
 refine sx_pure rfl rfl rfl (px_len rfl Try.underlying22 hva0) ?_
 refine sx_make (c := (dg m).length) rfl xelt22 (rfl) (rfl) (by omega) (by unfold maxLen; omega) (fun s3 ws3 fs3 cs3 ls3 => ?_)
 have ns3 := fs3.made
 have zws3 := cs3.size
 refine sa rfl rfl rfl rfl ?_
 refine wl_nil (q_n (k2 _ _ ?_))
 refine sx_seq fun K4 k4 => sx_region ?_
 refine sa rfl rfl rfl rfl ?_
 refine wl_nil (q_n (k4 _ _ ?_))
 refine sx_seq fun K5 k5 => ?_
 refine sx_seq fun K6 k6 => sx_region ?_
 refine sm rfl rfl rfl rfl ?_
 have f7 := hva0.ext cs3
 refine sx_pure rfl rfl rfl (px_len rfl Try.underlying22 f7) ?_
 refine sm rfl rfl rfl rfl ?_
 refine wl_nil (q_n (k6 _ _ ?_))
 refine sx_block ?_
 refine sx_loop (fun mm aa w' => ∃ (k : Nat) (os : List Int) (c : Nat), Agr 44 [(0, va), (1, vb), (5, s3), (6, .int .i64 ((c : Nat) : Int)), (13, .int .i64 (↑(dg m).length)), (14, .int .i64 ↑k)] aa ∧ Chg w.heap.size ws3.heap.size ws3 w' ∧ Own w' w.heap.size ws3.heap.size s3 intT os.length 1 (os.map (Value.int .i64)) ∧ (mm = (dg m).length - k) ∧ (os.length = (dg m).length) ∧ (Lm os) ∧ (c ≤ 1) ∧ (k ≤ (dg m).length) ∧ (vl ((dg m).take k) + Bs ^ k * c = vl (os.take k) + vl ((dg n).take k))) (_) (fun a ha => ⟨0, List.replicate (dg m).length 0, 0, ha.sub (Sub.cons (t := 0) rfl (.cons (t := 1) rfl (.cons (t := 5) rfl (.cons (t := 6) (look_int (t := 6) rfl (by first | omega | simp)) (.cons (t := 13) (look_int (t := 13) rfl (by first | omega | simp)) (.cons (t := 14) (look_int (t := 14) rfl (by first | omega | simp)) (.nil))))))), Chg.refl _ _ _, (ns3.mono (by omega) (by omega)), rfl, by simp, Lm.replicate _, by omega, by omega, by simp [vl]⟩) ?_
 rintro mm aa wl8 ⟨k, os, c, hAwl8, cwl8, hs_s3, hm, hos, hlm, hc, hk, hv⟩
 refine (show cw Try.prog 44 _ _ _ wl8 from ?_) aa hAwl8
 clear hAwl8
 have zwl8 := cwl8.size
 have am := (Lm_dg m).getD k
 have bn := (Lm_dg n).getD k
 refine sx_seq fun K9 k9 => sx_region ?_
 refine sx_pure rfl rfl rfl (px_lt rfl rfl) ?_
 refine wl_nil (q_n (k9 _ _ ?_))
 refine sx_seq fun K10 k10 => ?_
 refine sx_condP rfl (fun h122 => ?_) (fun h122 => ?_)
 ·
  refine sx_skip ?_
  refine q_n (k10 _ _ ?_)
  refine sx_seq fun K11 k11 => ?_
  refine sx_block ?_
  refine sx_seq fun K12 k12 => sx_region ?_
  refine sm rfl rfl rfl rfl ?_
  refine sa rfl rfl rfl rfl ?_
  refine wl_nil (q_n (k12 _ _ ?_))
  refine sx_seq fun K13 k13 => sx_region ?_
  refine sm rfl rfl rfl rfl ?_
  refine sm rfl rfl rfl rfl ?_
  have f14 := f7.chg cwl8 (by omega)
  refine sx_pure rfl rfl rfl (px_index1 (j := k) rfl rfl (by omega) Try.underlying22 Try.sizeOf3 f14 (by omega)) ?_
  refine sx_pure rfl rfl rfl (px_load rfl (f14.load1 (at_int (by omega)) Try.isAgg3)) ?_
  refine sm rfl rfl rfl rfl ?_
  refine sx_pure rfl rfl rfl (px_sub rfl rfl (by omega)) ?_
  refine sa rfl rfl rfl rfl ?_
  refine wl_nil (q_n (k13 _ _ ?_))
  refine sx_sub (Sub.cons (t := 0) rfl (.cons (t := 1) rfl (.cons (t := 5) rfl (.cons (t := 6) rfl (.cons (t := 7) rfl (.cons (t := 8) rfl (.cons (t := 13) rfl (.cons (t := 14) rfl (.nil))))))))) ?_
  refine sx_seq fun K15 k15 => ?_
  refine sx_seq fun K16 k16 => sx_region ?_
  refine sm rfl rfl rfl rfl ?_
  refine sm rfl rfl rfl rfl ?_
  have f17 := hvb0.ext cs3
  have f18 := f17.chg cwl8 (by omega)
  refine sx_pure rfl rfl rfl (px_len rfl Try.underlying22 f18) ?_
  refine sx_pure rfl rfl rfl (px_lt rfl rfl) ?_
  refine wl_nil (q_n (k16 _ _ ?_))
  refine sx_condP rfl (fun h124 => ?_) (fun h124 => ?_)
  ·
   refine sx_region ?_
   refine sm rfl rfl rfl rfl ?_
   refine sm rfl rfl rfl rfl ?_
   refine sm rfl rfl rfl rfl ?_
   refine sx_pure rfl rfl rfl (px_index1 (j := k) rfl rfl (by omega) Try.underlying22 Try.sizeOf3 f18 (by omega)) ?_
   refine sx_pure rfl rfl rfl (px_load rfl (f18.load1 (at_int (by omega)) Try.isAgg3)) ?_
   refine sx_pure rfl rfl rfl (px_sub rfl rfl (by omega)) ?_
   refine sa rfl rfl rfl rfl ?_
   refine wl_nil (q_n (k15 _ _ ?_))
   refine sx_sub (Sub.cons (t := 0) rfl (.cons (t := 1) rfl (.cons (t := 5) rfl (.cons (t := 6) rfl (.cons (t := 7) rfl (.cons (t := 8) rfl (.cons (t := 13) rfl (.cons (t := 14) rfl (.nil))))))))) ?_
   refine sx_seq fun K19 k19 => sx_region ?_
   refine sa rfl rfl rfl rfl ?_
   refine wl_nil (q_n (k19 _ _ ?_))
   refine sx_seq fun K20 k20 => ?_
   refine sx_seq fun K21 k21 => sx_region ?_
   refine sm rfl rfl rfl rfl ?_
   refine sx_pure rfl rfl rfl (px_lt rfl rfl) ?_
   refine wl_nil (q_n (k21 _ _ ?_))
   refine sx_condP rfl (fun h128 => ?_) (fun h128 => ?_)
   ·
    refine sx_seq fun K22 k22 => sx_region ?_
    refine sm rfl rfl rfl rfl ?_
    refine sx_pure rfl rfl rfl (px_add rfl rfl (by omega)) ?_
    refine sa rfl rfl rfl rfl ?_
    refine wl_nil (q_n (k22 _ _ ?_))
    refine sx_region ?_
    refine sa rfl rfl rfl rfl ?_
    refine wl_nil (q_n (k20 _ _ ?_))
    refine sx_region ?_
    refine sm rfl rfl rfl rfl ?_
    refine sm rfl rfl rfl rfl ?_
    refine sm rfl rfl rfl rfl ?_
    refine sx_pure rfl rfl rfl (px_index1 (j := k) rfl rfl (by omega) Try.underlying22 Try.sizeOf3 hs_s3.sv (by omega)) ?_
    refine sx_storeO rfl rfl hs_s3 (by first | omega | (simp only [List.length_map]; omega)) Try.sizeOf3 rfl (fun w23 sw23 fw23 cw23 => ?_)
    have zw23 := cw23.size
    have nw23 := fw23.set
    refine wl_nil ?_
    refine q_bn (q_n (k11 _ _ ?_))
    refine sx_sub (Sub.cons (t := 0) rfl (.cons (t := 1) rfl (.cons (t := 5) rfl (.cons (t := 6) rfl (.cons (t := 13) rfl (.cons (t := 14) rfl (.nil))))))) ?_
    refine sx_region ?_
    refine sx_pure rfl rfl rfl (px_add rfl rfl (by omega)) ?_
    refine sm rfl rfl rfl rfl ?_
    refine wl_nil ?_
    have q24 := Chg.step (l := w.heap.size) (h := ws3.heap.size) cwl8 cw23 (by omega)
    have hs : ((dg m).getD k 0).toNat + Bs * 1 = ((dg n).getD k 0).toNat + c + ((((((dg m).getD k 0) - ((c : Nat) : Int)) - ((dg n).getD k 0)) + 1000000000) : Int).toNat := by simp only [Bs]; omega
    have hv2 : vl ((dg m).take (k + 1)) + Bs ^ (k + 1) * 1 = vl ((os.set k ((((((dg m).getD k 0) - ((c : Nat) : Int)) - ((dg n).getD k 0)) + 1000000000))).take (k + 1)) + vl ((dg n).take (k + 1)) := by
     rw [vl_take_set (by omega), vl_take_succ', vl_take_succ', Nat.pow_succ]
     exact sub_step hs hv
    exact fun a ha => ⟨_, by omega, (k + 1), ((os).set k (((((dg m).getD k 0) - ((c : Nat) : Int)) - ((dg n).getD k 0)) + 1000000000)), 1, ha.sub (Sub.cons (t := 0) rfl (.cons (t := 1) rfl (.cons (t := 5) rfl (.cons (t := 6) (look_int (t := 6) rfl (by first | omega | simp)) (.cons (t := 13) rfl (.cons (t := 14) (look_int (t := 14) rfl (by first | omega | simp)) (.nil))))))), q24, (nw23.mono (by omega) (by omega)), rfl, by simp [hos], hlm.set k (by omega) (by omega), by omega, by omega, hv2⟩
   ·
    refine sx_skip ?_
    refine q_n (k20 _ _ ?_)
    refine sx_region ?_
    refine sm rfl rfl rfl rfl ?_
    refine sm rfl rfl rfl rfl ?_
    refine sm rfl rfl rfl rfl ?_
    refine sx_pure rfl rfl rfl (px_index1 (j := k) rfl rfl (by omega) Try.underlying22 Try.sizeOf3 hs_s3.sv (by omega)) ?_
    refine sx_storeO rfl rfl hs_s3 (by first | omega | (simp only [List.length_map]; omega)) Try.sizeOf3 rfl (fun w25 sw25 fw25 cw25 => ?_)
    have zw25 := cw25.size
    have nw25 := fw25.set
    refine wl_nil ?_
    refine q_bn (q_n (k11 _ _ ?_))
    refine sx_region ?_
    refine sx_pure rfl rfl rfl (px_add rfl rfl (by omega)) ?_
    refine sm rfl rfl rfl rfl ?_
    refine wl_nil ?_
    have q26 := Chg.step (l := w.heap.size) (h := ws3.heap.size) cwl8 cw25 (by omega)
    have hs : ((dg m).getD k 0).toNat + Bs * 0 = ((dg n).getD k 0).toNat + c + (((((dg m).getD k 0) - ((c : Nat) : Int)) - ((dg n).getD k 0)) : Int).toNat := by simp only [Bs]; omega
    have hv2 : vl ((dg m).take (k + 1)) + Bs ^ (k + 1) * 0 = vl ((os.set k (((((dg m).getD k 0) - ((c : Nat) : Int)) - ((dg n).getD k 0)))).take (k + 1)) + vl ((dg n).take (k + 1)) := by
     rw [vl_take_set (by omega), vl_take_succ', vl_take_succ', Nat.pow_succ]
     exact sub_step hs hv
    exact fun a ha => ⟨_, by omega, (k + 1), ((os).set k ((((dg m).getD k 0) - ((c : Nat) : Int)) - ((dg n).getD k 0))), 0, ha.sub (Sub.cons (t := 0) rfl (.cons (t := 1) rfl (.cons (t := 5) rfl (.cons (t := 6) (look_int (t := 6) rfl (by first | omega | simp)) (.cons (t := 13) rfl (.cons (t := 14) (look_int (t := 14) rfl (by first | omega | simp)) (.nil))))))), q26, (nw25.mono (by omega) (by omega)), rfl, by simp [hos], hlm.set k (by omega) (by omega), by omega, by omega, hv2⟩
  ·
   have gn := getD_ge (zs := dg n) (k := k) (by omega)
   refine sx_skip ?_
   refine q_n (k15 _ _ ?_)
   refine sx_seq fun K27 k27 => sx_region ?_
   refine sa rfl rfl rfl rfl ?_
   refine wl_nil (q_n (k27 _ _ ?_))
   refine sx_seq fun K28 k28 => ?_
   refine sx_seq fun K29 k29 => sx_region ?_
   refine sm rfl rfl rfl rfl ?_
   refine sx_pure rfl rfl rfl (px_lt rfl rfl) ?_
   refine wl_nil (q_n (k29 _ _ ?_))
   refine sx_condP rfl (fun h128 => ?_) (fun h128 => ?_)
   ·
    refine sx_seq fun K30 k30 => sx_region ?_
    refine sm rfl rfl rfl rfl ?_
    refine sx_pure rfl rfl rfl (px_add rfl rfl (by omega)) ?_
    refine sa rfl rfl rfl rfl ?_
    refine wl_nil (q_n (k30 _ _ ?_))
    refine sx_sub (Sub.cons (t := 0) rfl (.cons (t := 1) rfl (.cons (t := 5) rfl (.cons (t := 6) rfl (.cons (t := 7) rfl (.cons (t := 8) rfl (.cons (t := 13) rfl (.cons (t := 14) rfl (.nil))))))))) ?_
    refine sx_region ?_
    refine sa rfl rfl rfl rfl ?_
    refine wl_nil (q_n (k28 _ _ ?_))
    refine sx_region ?_
    refine sm rfl rfl rfl rfl ?_
    refine sm rfl rfl rfl rfl ?_
    refine sm rfl rfl rfl rfl ?_
    refine sx_pure rfl rfl rfl (px_index1 (j := k) rfl rfl (by omega) Try.underlying22 Try.sizeOf3 hs_s3.sv (by omega)) ?_
    refine sx_storeO rfl rfl hs_s3 (by first | omega | (simp only [List.length_map]; omega)) Try.sizeOf3 rfl (fun w31 sw31 fw31 cw31 => ?_)
    have zw31 := cw31.size
    have nw31 := fw31.set
    refine wl_nil ?_
    refine q_bn (q_n (k11 _ _ ?_))
    refine sx_region ?_
    refine sx_pure rfl rfl rfl (px_add rfl rfl (by omega)) ?_
    refine sm rfl rfl rfl rfl ?_
    refine wl_nil ?_
    have q32 := Chg.step (l := w.heap.size) (h := ws3.heap.size) cwl8 cw31 (by omega)
    have hs : ((dg m).getD k 0).toNat + Bs * 1 = ((dg n).getD k 0).toNat + c + (((((dg m).getD k 0) - ((c : Nat) : Int)) + 1000000000) : Int).toNat := by simp only [Bs]; omega
    have hv2 : vl ((dg m).take (k + 1)) + Bs ^ (k + 1) * 1 = vl ((os.set k (((((dg m).getD k 0) - ((c : Nat) : Int)) + 1000000000))).take (k + 1)) + vl ((dg n).take (k + 1)) := by
     rw [vl_take_set (by omega), vl_take_succ', vl_take_succ', Nat.pow_succ]
     exact sub_step hs hv
    exact fun a ha => ⟨_, by omega, (k + 1), ((os).set k ((((dg m).getD k 0) - ((c : Nat) : Int)) + 1000000000)), 1, ha.sub (Sub.cons (t := 0) rfl (.cons (t := 1) rfl (.cons (t := 5) rfl (.cons (t := 6) (look_int (t := 6) rfl (by first | omega | simp)) (.cons (t := 13) rfl (.cons (t := 14) (look_int (t := 14) rfl (by first | omega | simp)) (.nil))))))), q32, (nw31.mono (by omega) (by omega)), rfl, by simp [hos], hlm.set k (by omega) (by omega), by omega, by omega, hv2⟩
   ·
    refine sx_skip ?_
    refine q_n (k28 _ _ ?_)
    refine sx_region ?_
    refine sm rfl rfl rfl rfl ?_
    refine sm rfl rfl rfl rfl ?_
    refine sm rfl rfl rfl rfl ?_
    refine sx_pure rfl rfl rfl (px_index1 (j := k) rfl rfl (by omega) Try.underlying22 Try.sizeOf3 hs_s3.sv (by omega)) ?_
    refine sx_storeO rfl rfl hs_s3 (by first | omega | (simp only [List.length_map]; omega)) Try.sizeOf3 rfl (fun w33 sw33 fw33 cw33 => ?_)
    have zw33 := cw33.size
    have nw33 := fw33.set
    refine wl_nil ?_
    refine q_bn (q_n (k11 _ _ ?_))
    refine sx_sub (Sub.cons (t := 0) rfl (.cons (t := 1) rfl (.cons (t := 5) rfl (.cons (t := 6) rfl (.cons (t := 13) rfl (.cons (t := 14) rfl (.nil))))))) ?_
    refine sx_region ?_
    refine sx_pure rfl rfl rfl (px_add rfl rfl (by omega)) ?_
    refine sm rfl rfl rfl rfl ?_
    refine wl_nil ?_
    have q34 := Chg.step (l := w.heap.size) (h := ws3.heap.size) cwl8 cw33 (by omega)
    have hs : ((dg m).getD k 0).toNat + Bs * 0 = ((dg n).getD k 0).toNat + c + ((((dg m).getD k 0) - ((c : Nat) : Int)) : Int).toNat := by simp only [Bs]; omega
    have hv2 : vl ((dg m).take (k + 1)) + Bs ^ (k + 1) * 0 = vl ((os.set k ((((dg m).getD k 0) - ((c : Nat) : Int)))).take (k + 1)) + vl ((dg n).take (k + 1)) := by
     rw [vl_take_set (by omega), vl_take_succ', vl_take_succ', Nat.pow_succ]
     exact sub_step hs hv
    exact fun a ha => ⟨_, by omega, (k + 1), ((os).set k (((dg m).getD k 0) - ((c : Nat) : Int))), 0, ha.sub (Sub.cons (t := 0) rfl (.cons (t := 1) rfl (.cons (t := 5) rfl (.cons (t := 6) (look_int (t := 6) rfl (by first | omega | simp)) (.cons (t := 13) rfl (.cons (t := 14) (look_int (t := 14) rfl (by first | omega | simp)) (.nil))))))), q34, (nw33.mono (by omega) (by omega)), rfl, by simp [hos], hlm.set k (by omega) (by omega), by omega, by omega, hv2⟩
 ·
  refine sx_exit ?_
  refine q_e (q_e (q_bx (q_n (k5 _ _ ?_))))
  refine sx_seq fun K35 k35 => ?_
  have ek : k = (dg m).length := by omega
  have hnm := len_le hle
  subst ek
  rw [List.take_length, vl_dg, vl_take_ge (show (dg n).length ≤ (dg m).length from hnm), vl_dg, ← hos, List.take_length] at hv
  have hend := sub_end hv hle (vl_lt hlm) hc
  have hvv := hend.2
  have hz := hlm
  refine sx_region ?_
  refine sm rfl rfl rfl rfl ?_
  refine sx_call rfl rfl Try.call83 (c_trim hs_s3 (by assumption) (by first | omega | (simp only [List.length_append, List.length_set, List.length_replicate, List.length_cons, List.length_nil] at *; omega))) (fun v36 w36 p36 => ?_)
  obtain ⟨s36, rfl, os_36, c36⟩ := p36
  have zw36 := c36.size
  refine sa rfl rfl rfl rfl ?_
  refine wl_nil (q_n (k35 _ _ ?_))
  refine sx_retc ?_
  refine sx_ret1 Try.results127 rfl ?_
  have hr := os_36
  rw [hvv] at hr
  have q37 := Chg.step (l := 0) (h := 0) (Chg.zero (l := 0) (h := 0) cs3) cwl8 (by omega)
  have q38 := Chg.step (l := 0) (h := 0) q37 c36 (by omega)
  exact ⟨_, rfl, hr.mono (by omega) (by omega), q38⟩

theorem c_intAdd {w : World} {va : Value} {lva uva : Nat} {x : Int} {vb : Value} {lvb uvb : Nat} {y : Int} (hva : Sl w lva uva va (dg x.natAbs)) (hvb : Sl w lvb uvb vb (dg y.natAbs)) (hbx : (dg x.natAbs).length ≤ 1000) (hby : (dg y.natAbs).length ≤ 1000) :
  Ret Try.prog 124 [.agg #[.bool (ng x), va], .agg #[.bool (ng y), vb]] w fun v w' => ∃ s, v = .agg #[.bool (ng (x + y)), s] ∧ OwnI w' w.heap.size w'.heap.size s intT (dg (x + y).natAbs) ∧ Chg 0 0 w w' := by
 have hva0 := hva.fit
 have hvb0 := hvb.fit
 have l2 := len_add x.natAbs y.natAbs
 have l3 := len_le (Nat.sub_le x.natAbs y.natAbs)
 have l4 := len_le (Nat.sub_le y.natAbs x.natAbs)
 refine sx_enter Try.func124 rfl Try.ntmps124 (Nat.le_of_ble_eq_true rfl) ?_
 refine sx_seq fun K1 k1 => sx_region ?_
 refine sx_box [.bool (ng x), va] rfl rfl rfl (fun b2 w3 eb2 sb2 fb2 cb2 => ?_)
 have zw3 := cb2.size
 refine sx_box [.bool (ng y), vb] rfl rfl rfl (fun b4 w5 eb4 sb4 fb4 cb4 => ?_)
 have zw5 := cb4.size
 refine sx_alloc [.bool false, (.slice none 0 0)] rfl Try.zeroValue28 rfl (fun b6 w7 eb6 sb6 fb6 cb6 => ?_)
 have zw7 := cb6.size
 refine wl_nil (q_n (k1 _ _ ?_))
 refine sx_seq fun K8 k8 => ?_
 refine sx_seq fun K9 k9 => sx_region ?_
 refine sx_pure rfl rfl rfl (px_field rfl xfld28x0) ?_
 have f10 := fb2.ext cb4
 have f11 := f10.ext cb6
 refine sx_pure rfl rfl rfl (px_load rfl (f11.load1 rfl Try.isAgg4)) ?_
 refine sx_pure rfl rfl rfl (px_field rfl xfld28x0) ?_
 have f12 := fb4.ext cb6
 refine sx_pure rfl rfl rfl (px_load rfl (f12.load1 rfl Try.isAgg4)) ?_
 refine sx_pure rfl rfl rfl (px_eqB Try.underlying4 rfl rfl) ?_
 refine wl_nil (q_n (k9 _ _ ?_))
 refine sx_condB rfl (fun h46 => ?_) (fun h46 => ?_)
 ·
  refine sx_seq fun K13 k13 => ?_
  have f14 := hva0.ext cb2
  have f15 := f14.ext cb4
  have f16 := f15.ext cb6
  have f17 := hvb0.ext cb2
  have f18 := f17.ext cb4
  have f19 := f18.ext cb6
  refine dx_region (fun w' => Chg b6 (b6 + 1) w7 w') (by kernel_rfl) (Chg.zero (Chg.drew _)) ?_
  have d20 := Chg.drew w7
  have s20 : Chg b6 (b6 + 1) w7 (World.drew w7) := Chg.zero (Chg.drew _)
  have y20 : (World.drew w7).heap.size = w7.heap.size := rfl
  generalize World.drew w7 = w20 at *
  have zw20 := d20.size
  refine dx_take 0 rfl rfl rfl rfl (by kernel_rfl) (by kernel_rfl) (by kernel_rfl) s20 (fun _ hS => px_field rfl xfld28x0) ?_
  refine dx_take 1 rfl rfl rfl rfl (by kernel_rfl) (by kernel_rfl) (by kernel_rfl) s20 (fun _ hS => px_load rfl ((f11.chg hS (by omega)).load1 rfl Try.isAgg4)) ?_
  refine dx_take 2 rfl rfl rfl rfl (by kernel_rfl) (by kernel_rfl) (by kernel_rfl) s20 (fun _ hS => px_field rfl xfld28x1) ?_
  refine dx_take 3 rfl rfl rfl rfl (by kernel_rfl) (by kernel_rfl) (by kernel_rfl) s20 (fun _ hS => px_load rfl ((f11.chg hS (by omega)).load1 rfl Try.isAgg22)) ?_
  refine dx_take 4 rfl rfl rfl rfl (by kernel_rfl) (by kernel_rfl) (by kernel_rfl) s20 (fun _ hS => px_field rfl xfld28x1) ?_
  refine dx_take 5 rfl rfl rfl rfl (by kernel_rfl) (by kernel_rfl) (by kernel_rfl) s20 (fun _ hS => px_load rfl ((f12.chg hS (by omega)).load1 rfl Try.isAgg22)) ?_
  refine dx_eff 6 rfl (by kernel_rfl) ?_
  have f21 := f16.ext d20
  have f22 := f19.ext d20
  refine sx_call rfl rfl Try.call97 (c_natAdd f21 f22 (by omega) (by omega)) (fun v23 w23 p23 => ?_)
  obtain ⟨s23, rfl, os_23, c23⟩ := p23
  have zw23 := c23.size
  have s24 : Chg b6 (b6 + 1) w7 w23 := (Chg.zero (l := b6) (h := (b6 + 1)) (d20.t c23))
  refine wl_nil ?_
  refine dx_next s24 ?_
  refine dx_eff 7 rfl (by kernel_rfl) ?_
  refine sx_call rfl rfl Try.call45 (c_signed os_23.sv (by omega)) (fun v25 w25 p25 => ?_)
  obtain ⟨rfl, c25⟩ := p25
  have zw25 := c25.size
  have s26 : Chg b6 (b6 + 1) w7 w25 := (Chg.zero (l := b6) (h := (b6 + 1)) ((d20.t c23).t c25))
  refine wl_nil ?_
  refine dx_next s26 ?_
  refine dx_eff 8 rfl (by kernel_rfl) ?_
  have f28 := fb6.ext d20
  have f29 := f28.ext c23
  have f30 := f29.ext c25
  have f31 := os_23.ext c25
  refine sx_store (vs := [.bool (nz (ng x) (dg (x.natAbs + y.natAbs))), v23]) rfl rfl f30 rfl Try.sizeOf28 (Nat.le_of_ble_eq_true rfl) (one_cons rfl (one_cons f31.one one_nil)) (fun w27 sw27 fw27 cw27 => ?_)
  have zw27 := cw27.size
  have gw27 : Blk w27 b6 [.bool (nz (ng x) (dg (x.natAbs + y.natAbs))), v23] 28 := fw27
  have q33 := Chg.step (l := b6) (h := (b6 + 1)) (Chg.zero (l := b6) (h := (b6 + 1)) ((d20.t c23).t c25)) cw27 (by omega)
  have s32 : Chg b6 (b6 + 1) w7 w27 := q33
  refine wl_nil ?_
  refine dx_next s32 ?_
  refine dx_done (by kernel_rfl) ?_
  refine q_n (k13 _ _ ?_)
  refine sx_sub (Sub.cons (t := 2) rfl (.cons (t := 3) rfl (.cons (t := 4) rfl (.nil)))) ?_
  refine sx_retc ?_
  refine q_r (sx_ret1 Try.results124 ⟨_, rfl, gw27.loadA (vs := [.bool (nz (ng x) (dg (x.natAbs + y.natAbs))), v23]) (look_lit rfl) Try.isAgg28 Try.sizeOf28⟩ ?_)
  have hh := add_sg h46
  rw [← hh.1, ← hh.2]
  have f34 := f31.chg cw27 (by omega)
  have q35 := Chg.step (l := 0) (h := 0) (Chg.zero (l := 0) (h := 0) (((((cb2.t cb4).t cb6).t d20).t c23).t c25)) cw27 (by omega)
  exact ⟨_, rfl, (Own.mono f34 (by omega) (by omega)), q35⟩
 ·
  refine sx_skip ?_
  refine q_n (k8 _ _ ?_)
  refine sx_seq fun K36 k36 => ?_
  refine sx_seq fun K37 k37 => sx_region ?_
  refine sx_pure rfl rfl rfl (px_field rfl xfld28x1) ?_
  refine sx_pure rfl rfl rfl (px_load rfl (f11.load1 rfl Try.isAgg22)) ?_
  refine sx_pure rfl rfl rfl (px_field rfl xfld28x1) ?_
  refine sx_pure rfl rfl rfl (px_load rfl (f12.load1 rfl Try.isAgg22)) ?_
  have f38 := hva0.ext cb2
  have f39 := f38.ext cb4
  have f40 := f39.ext cb6
  have f41 := hvb0.ext cb2
  have f42 := f41.ext cb4
  have f43 := f42.ext cb6
  refine sx_call rfl rfl Try.call78 (c_natCmp f40 f43 (by omega)) (fun v44 w44 p44 => ?_)
  obtain ⟨rfl, c44⟩ := p44
  have zw44 := c44.size
  refine sx_pure rfl rfl rfl (px_lt rfl rfl) ?_
  refine wl_nil (q_n (k37 _ _ ?_))
  refine sx_sub (Sub.cons (t := 2) rfl (.cons (t := 3) rfl (.cons (t := 4) rfl (.cons (t := 23) rfl (.nil))))) ?_
  refine sx_condP rfl (fun h49 => ?_) (fun h49 => ?_)
  ·
   rw [cmpL_dg] at h49
   have hlt := cmpN_neg.1 h49
   refine sx_region ?_
   have f45 := f12.ext c44
   refine sx_pure rfl rfl rfl (px_load rfl (f45.loadA (vs := [.bool (ng y), vb]) (look_lit rfl) Try.isAgg28 Try.sizeOf28)) ?_
   have f46 := f11.ext c44
   refine sx_pure rfl rfl rfl (px_load rfl (f46.loadA (vs := [.bool (ng x), va]) (look_lit rfl) Try.isAgg28 Try.sizeOf28)) ?_
   have f48 := f43.ext c44
   refine sx_store (vs := [.bool (ng y), vb]) rfl rfl f46 rfl Try.sizeOf28 (Nat.le_of_ble_eq_true rfl) (one_cons rfl (one_cons f48.one one_nil)) (fun w47 sw47 fw47 cw47 => ?_)
   have zw47 := cw47.size
   have gw47 : Blk w47 b2 [.bool (ng y), vb] 28 := fw47
   have f50 := f45.chg cw47 (by omega)
   have f51 := f40.ext c44
   have f52 := f51.chg cw47 (by omega)
   refine sx_store (vs := [.bool (ng x), va]) rfl rfl f50 rfl Try.sizeOf28 (Nat.le_of_ble_eq_true rfl) (one_cons rfl (one_cons f52.one one_nil)) (fun w49 sw49 fw49 cw49 => ?_)
   have zw49 := cw49.size
   have gw49 : Blk w49 b4 [.bool (ng x), va] 28 := fw49
   refine wl_nil (q_n (k36 _ _ ?_))
   refine sx_seq fun K53 k53 => ?_
   have f54 := gw47.chg cw49 (by omega)
   have f55 := f52.chg cw49 (by omega)
   have f56 := f48.chg cw47 (by omega)
   have f57 := f56.chg cw49 (by omega)
   refine dx_region (fun w' => Chg b6 (b6 + 1) w49 w') (by kernel_rfl) (Chg.zero (Chg.drew _)) ?_
   have d58 := Chg.drew w49
   have s58 : Chg b6 (b6 + 1) w49 (World.drew w49) := Chg.zero (Chg.drew _)
   have y58 : (World.drew w49).heap.size = w49.heap.size := rfl
   generalize World.drew w49 = w58 at *
   have zw58 := d58.size
   refine dx_take 0 rfl rfl rfl rfl (by kernel_rfl) (by kernel_rfl) (by kernel_rfl) s58 (fun _ hS => px_field rfl xfld28x0) ?_
   refine dx_take 1 rfl rfl rfl rfl (by kernel_rfl) (by kernel_rfl) (by kernel_rfl) s58 (fun _ hS => px_load rfl ((f54.chg hS (by omega)).load1 rfl Try.isAgg4)) ?_
   refine dx_take 2 rfl rfl rfl rfl (by kernel_rfl) (by kernel_rfl) (by kernel_rfl) s58 (fun _ hS => px_field rfl xfld28x1) ?_
   refine dx_take 3 rfl rfl rfl rfl (by kernel_rfl) (by kernel_rfl) (by kernel_rfl) s58 (fun _ hS => px_load rfl ((f54.chg hS (by omega)).load1 rfl Try.isAgg22)) ?_
   refine dx_take 4 rfl rfl rfl rfl (by kernel_rfl) (by kernel_rfl) (by kernel_rfl) s58 (fun _ hS => px_field rfl xfld28x1) ?_
   refine dx_take 5 rfl rfl rfl rfl (by kernel_rfl) (by kernel_rfl) (by kernel_rfl) s58 (fun _ hS => px_load rfl ((gw49.chg hS (by omega)).load1 rfl Try.isAgg22)) ?_
   refine dx_eff 6 rfl (by kernel_rfl) ?_
   have f59 := f57.ext d58
   have f60 := f55.ext d58
   refine sx_call rfl rfl Try.call127 (c_natSub f59 f60 (by omega) (by omega) (by omega)) (fun v61 w61 p61 => ?_)
   obtain ⟨s61, rfl, os_61, c61⟩ := p61
   have zw61 := c61.size
   have s62 : Chg b6 (b6 + 1) w49 w61 := (Chg.zero (l := b6) (h := (b6 + 1)) (d58.t c61))
   refine wl_nil ?_
   refine dx_next s62 ?_
   refine dx_eff 7 rfl (by kernel_rfl) ?_
   refine sx_call rfl rfl Try.call45 (c_signed os_61.sv (by omega)) (fun v63 w63 p63 => ?_)
   obtain ⟨rfl, c63⟩ := p63
   have zw63 := c63.size
   have s64 : Chg b6 (b6 + 1) w49 w63 := (Chg.zero (l := b6) (h := (b6 + 1)) ((d58.t c61).t c63))
   refine wl_nil ?_
   refine dx_next s64 ?_
   refine dx_eff 8 rfl (by kernel_rfl) ?_
   have f66 := fb6.ext c44
   have f67 := f66.chg cw47 (by omega)
   have f68 := f67.chg cw49 (by omega)
   have f69 := f68.ext d58
   have f70 := f69.ext c61
   have f71 := f70.ext c63
   have f72 := os_61.ext c63
   refine sx_store (vs := [.bool (nz (ng y) (dg (y.natAbs - x.natAbs))), v61]) rfl rfl f71 rfl Try.sizeOf28 (Nat.le_of_ble_eq_true rfl) (one_cons rfl (one_cons f72.one one_nil)) (fun w65 sw65 fw65 cw65 => ?_)
   have zw65 := cw65.size
   have gw65 : Blk w65 b6 [.bool (nz (ng y) (dg (y.natAbs - x.natAbs))), v61] 28 := fw65
   have q74 := Chg.step (l := b6) (h := (b6 + 1)) (Chg.zero (l := b6) (h := (b6 + 1)) ((d58.t c61).t c63)) cw65 (by omega)
   have s73 : Chg b6 (b6 + 1) w49 w65 := q74
   refine wl_nil ?_
   refine dx_next s73 ?_
   refine dx_done (by kernel_rfl) ?_
   refine q_n (k53 _ _ ?_)
   refine sx_retc ?_
   refine sx_ret1 Try.results124 ⟨_, rfl, gw65.loadA (vs := [.bool (nz (ng y) (dg (y.natAbs - x.natAbs))), v61]) (look_lit rfl) Try.isAgg28 Try.sizeOf28⟩ ?_
   have hh := (sub_sg2 h46 (by omega))
   rw [← hh.1, ← hh.2]
   have f75 := f72.chg cw65 (by omega)
   have q76 := Chg.step (l := 0) (h := 0) (Chg.zero (l := 0) (h := 0) (((cb2.t cb4).t cb6).t c44)) cw47 (by omega)
   have q77 := Chg.step (l := 0) (h := 0) q76 cw49 (by omega)
   have q78 := Chg.step (l := 0) (h := 0) q77 ((d58.t c61).t c63) (by omega)
   have q79 := Chg.step (l := 0) (h := 0) q78 cw65 (by omega)
   exact ⟨_, rfl, (Own.mono f75 (by omega) (by omega)), q79⟩
  ·
   rw [cmpL_dg] at h49
   have hge := cmpN_nonneg.1 (Int.not_lt.1 h49)
   refine sx_skip ?_
   refine q_n (k36 _ _ ?_)
   refine sx_seq fun K80 k80 => ?_
   have f81 := f11.ext c44
   have f82 := f12.ext c44
   have f83 := f40.ext c44
   have f84 := f43.ext c44
   refine dx_region (fun w' => Chg b6 (b6 + 1) w44 w') (by kernel_rfl) (Chg.zero (Chg.drew _)) ?_
   have d85 := Chg.drew w44
   have s85 : Chg b6 (b6 + 1) w44 (World.drew w44) := Chg.zero (Chg.drew _)
   have y85 : (World.drew w44).heap.size = w44.heap.size := rfl
   generalize World.drew w44 = w85 at *
   have zw85 := d85.size
   refine dx_take 0 rfl rfl rfl rfl (by kernel_rfl) (by kernel_rfl) (by kernel_rfl) s85 (fun _ hS => px_field rfl xfld28x0) ?_
   refine dx_take 1 rfl rfl rfl rfl (by kernel_rfl) (by kernel_rfl) (by kernel_rfl) s85 (fun _ hS => px_load rfl ((f81.chg hS (by omega)).load1 rfl Try.isAgg4)) ?_
   refine dx_take 2 rfl rfl rfl rfl (by kernel_rfl) (by kernel_rfl) (by kernel_rfl) s85 (fun _ hS => px_field rfl xfld28x1) ?_
   refine dx_take 3 rfl rfl rfl rfl (by kernel_rfl) (by kernel_rfl) (by kernel_rfl) s85 (fun _ hS => px_load rfl ((f81.chg hS (by omega)).load1 rfl Try.isAgg22)) ?_
   refine dx_take 4 rfl rfl rfl rfl (by kernel_rfl) (by kernel_rfl) (by kernel_rfl) s85 (fun _ hS => px_field rfl xfld28x1) ?_
   refine dx_take 5 rfl rfl rfl rfl (by kernel_rfl) (by kernel_rfl) (by kernel_rfl) s85 (fun _ hS => px_load rfl ((f82.chg hS (by omega)).load1 rfl Try.isAgg22)) ?_
   refine dx_eff 6 rfl (by kernel_rfl) ?_
   have f86 := f83.ext d85
   have f87 := f84.ext d85
   refine sx_call rfl rfl Try.call127 (c_natSub f86 f87 (by omega) (by omega) (by omega)) (fun v88 w88 p88 => ?_)
   obtain ⟨s88, rfl, os_88, c88⟩ := p88
   have zw88 := c88.size
   have s89 : Chg b6 (b6 + 1) w44 w88 := (Chg.zero (l := b6) (h := (b6 + 1)) (d85.t c88))
   refine wl_nil ?_
   refine dx_next s89 ?_
   refine dx_eff 7 rfl (by kernel_rfl) ?_
   refine sx_call rfl rfl Try.call45 (c_signed os_88.sv (by omega)) (fun v90 w90 p90 => ?_)
   obtain ⟨rfl, c90⟩ := p90
   have zw90 := c90.size
   have s91 : Chg b6 (b6 + 1) w44 w90 := (Chg.zero (l := b6) (h := (b6 + 1)) ((d85.t c88).t c90))
   refine wl_nil ?_
   refine dx_next s91 ?_
   refine dx_eff 8 rfl (by kernel_rfl) ?_
   have f93 := fb6.ext c44
   have f94 := f93.ext d85
   have f95 := f94.ext c88
   have f96 := f95.ext c90
   have f97 := os_88.ext c90
   refine sx_store (vs := [.bool (nz (ng x) (dg (x.natAbs - y.natAbs))), v88]) rfl rfl f96 rfl Try.sizeOf28 (Nat.le_of_ble_eq_true rfl) (one_cons rfl (one_cons f97.one one_nil)) (fun w92 sw92 fw92 cw92 => ?_)
   have zw92 := cw92.size
   have gw92 : Blk w92 b6 [.bool (nz (ng x) (dg (x.natAbs - y.natAbs))), v88] 28 := fw92
   have q99 := Chg.step (l := b6) (h := (b6 + 1)) (Chg.zero (l := b6) (h := (b6 + 1)) ((d85.t c88).t c90)) cw92 (by omega)
   have s98 : Chg b6 (b6 + 1) w44 w92 := q99
   refine wl_nil ?_
   refine dx_next s98 ?_
   refine dx_done (by kernel_rfl) ?_
   refine q_n (k80 _ _ ?_)
   refine sx_retc ?_
   refine sx_ret1 Try.results124 ⟨_, rfl, gw92.loadA (vs := [.bool (nz (ng x) (dg (x.natAbs - y.natAbs))), v88]) (look_lit rfl) Try.isAgg28 Try.sizeOf28⟩ ?_
   have hh := sub_sg h46 hge
   rw [← hh.1, ← hh.2]
   have f100 := f97.chg cw92 (by omega)
   have q101 := Chg.step (l := 0) (h := 0) (Chg.zero (l := 0) (h := 0) ((((((cb2.t cb4).t cb6).t c44).t d85).t c88).t c90)) cw92 (by omega)
   exact ⟨_, rfl, (Own.mono f100 (by omega) (by omega)), q101⟩

theorem c_iRatAdd {w : World} {n1 : Bool} {v1 : Value} {lv1 uv1 : Nat} {z1 : List Int} {d1 : Value} {ld1 ud1 : Nat} {y1 : List Int} {n2 : Bool} {v2 : Value} {lv2 uv2 : Nat} {z2 : List Int} {d2 : Value} {ld2 ud2 : Nat} {y2 : List Int} (hv1 : Sl w lv1 uv1 v1 (z1)) (hd1 : Sl w ld1 ud1 d1 (y1)) (hv2 : Sl w lv2 uv2 v2 (z2)) (hd2 : Sl w ld2 ud2 d2 (y2)) (h63 : z1.length ≤ 4611686018427387904 ∧ y1.length ≤ 4611686018427387904 ∧ z2.length ≤ 4611686018427387904 ∧ y2.length ≤ 4611686018427387904) :
  Ret Try.prog 107 [.agg #[.bool n1, v1, d1], .agg #[.bool n2, v2, d2]] w fun v w' => ∃ s t ls us lt ut, v = .tuple #[.agg #[.bool ((rAdd n1 z1 y1 n2 z2 y2).1), s, t], .bool ((rAdd n1 z1 y1 n2 z2 y2).2.2.2)] ∧ OwnI w' (ls) (us) s intT ((rAdd n1 z1 y1 n2 z2 y2).2.1) ∧ OwnI w' (lt) (ut) t intT ((rAdd n1 z1 y1 n2 z2 y2).2.2.1) ∧ (w.heap.size ≤ ls ∧ us ≤ w'.heap.size ∧ w.heap.size ≤ lt ∧ ut ≤ w'.heap.size ∧ (us ≤ lt ∨ ut ≤ ls)) ∧ ((rAdd n1 z1 y1 n2 z2 y2).2.1.length ≤ 18 ∧ (rAdd n1 z1 y1 n2 z2 y2).2.2.1.length ≤ 18) ∧ Chg 0 0 w w' := by
 have hv10 := hv1.fit
 have hd10 := hd1.fit
 have hv20 := hv2.fit
 have hd20 := hd2.fit
 refine sx_enter Try.func107 rfl Try.ntmps107 (Nat.le_of_ble_eq_true rfl) ?_
 refine sx_seq fun K1 k1 => sx_region ?_
 refine sx_box [.bool n1, v1, d1] rfl rfl rfl (fun b2 w3 eb2 sb2 fb2 cb2 => ?_)
 have zw3 := cb2.size
 refine sx_box [.bool n2, v2, d2] rfl rfl rfl (fun b4 w5 eb4 sb4 fb4 cb4 => ?_)
 have zw5 := cb4.size
 refine sx_alloc [.bool false, (.slice none 0 0), (.slice none 0 0)] rfl Try.zeroValue44 rfl (fun b6 w7 eb6 sb6 fb6 cb6 => ?_)
 have zw7 := cb6.size
 refine sa rfl rfl rfl rfl ?_
 refine wl_nil (q_n (k1 _ _ ?_))
 refine sx_seq fun K8 k8 => ?_
 refine sx_seq fun K9 k9 => sx_region ?_
 have f10 := fb2.ext cb4
 have f11 := f10.ext cb6
 refine sx_pure rfl rfl rfl (px_load rfl (f11.loadA (vs := [.bool n1, v1, d1]) (look_lit rfl) Try.isAgg44 Try.sizeOf44)) ?_
 have f12 := fb4.ext cb6
 refine sx_pure rfl rfl rfl (px_load rfl (f12.loadA (vs := [.bool n2, v2, d2]) (look_lit rfl) Try.isAgg44 Try.sizeOf44)) ?_
 have f13 := hv10.ext cb2
 have f14 := f13.ext cb4
 have f15 := f14.ext cb6
 have f16 := hd10.ext cb2
 have f17 := f16.ext cb4
 have f18 := f17.ext cb6
 have f19 := hv20.ext cb2
 have f20 := f19.ext cb4
 have f21 := f20.ext cb6
 have f22 := hd20.ext cb2
 have f23 := f22.ext cb4
 have f24 := f23.ext cb6
 refine sx_call rfl rfl Try.call106 (c_ratsOk f15 f18 f21 f24 (by omega)) (fun v25 w25 p25 => ?_)
 obtain ⟨rfl, c25⟩ := p25
 have zw25 := c25.size
 refine sx_pure rfl rfl rfl (px_notP rfl) ?_
 refine wl_nil (q_n (k9 _ _ ?_))
 refine sx_condP rfl (fun h54 => ?_) (fun h54 => ?_)
 ·
  refine sx_seq fun K26 k26 => sx_region ?_
  refine sx_pure rfl rfl rfl (px_build rfl (xbld44x  _)) ?_
  have f28 := fb6.ext c25
  refine sx_store (vs := [.bool false, (.slice none 0 0), (.slice none 0 0)]) rfl rfl f28 rfl Try.sizeOf44 (Nat.le_of_ble_eq_true rfl) (one_cons rfl (one_cons rfl (one_cons rfl one_nil))) (fun w27 sw27 fw27 cw27 => ?_)
  have zw27 := cw27.size
  have gw27 : Blk w27 b6 [.bool false, (.slice none 0 0), (.slice none 0 0)] 44 := fw27
  refine sa rfl rfl rfl rfl ?_
  refine wl_nil (q_n (k26 _ _ ?_))
  refine sx_retc ?_
  refine q_r (sx_ret2 Try.results107 ⟨_, rfl, gw27.loadA (vs := [.bool false, (.slice none 0 0), (.slice none 0 0)]) (look_lit rfl) Try.isAgg44 Try.sizeOf44⟩ rfl ?_)
  rw [rAdd_no h54]
  have q29 := Chg.step (l := 0) (h := 0) (Chg.zero (l := 0) (h := 0) (((cb2.t cb4).t cb6).t c25)) cw27 (by omega)
  exact ⟨_, _, w.heap.size, w.heap.size, w.heap.size, w.heap.size, rfl, Own.nil _ _ _ _ _, Own.nil _ _ _ _ _, by omega, ⟨by simp [noR], by simp [noR]⟩, q29⟩
 ·
  have hR1 := (Decidable.not_not.1 h54).1
  have hR2 := (Decidable.not_not.1 h54).2
  obtain ⟨x1, e1, rfl, rfl, rfl, hp1, hx1, hy1, hg1⟩ := hR1.rat
  obtain ⟨x2, e2, rfl, rfl, rfl, hp2, hx2, hy2, hg2⟩ := hR2.rat
  have l1 := len_mul x1.natAbs e2
  have l2 := len_mul x2.natAbs e1
  have l3 := len_mul e1 e2
  have a1 : (x1 * (e2 : Int)).natAbs = x1.natAbs * e2 := by rw [Int.natAbs_mul, Int.natAbs_natCast]
  have a2 : (x2 * (e1 : Int)).natAbs = x2.natAbs * e1 := by rw [Int.natAbs_mul, Int.natAbs_natCast]
  have l4 := len_addI (x1 * (e2 : Int)) (x2 * (e1 : Int))
  rw [a1, a2] at l4
  have l5 := len_mul e1 x2.natAbs
  have l6 := len_mul x1.natAbs x2.natAbs
  refine sx_skip ?_
  refine q_n (k8 _ _ ?_)
  refine sx_seq fun K30 k30 => ?_
  have f31 := f11.ext c25
  have f32 := f12.ext c25
  have f33 := fb6.ext c25
  have f34 := f15.ext c25
  have f35 := f18.ext c25
  have f36 := f21.ext c25
  have f37 := f24.ext c25
  refine dx_region (fun w' => Chg 0 0 w25 w') (by kernel_rfl) (Chg.zero (Chg.drew _)) ?_
  have d38 := Chg.drew w25
  have s38 : Chg 0 0 w25 (World.drew w25) := Chg.zero (Chg.drew _)
  have y38 : (World.drew w25).heap.size = w25.heap.size := rfl
  generalize World.drew w25 = w38 at *
  have zw38 := d38.size
  refine dx_take 0 rfl rfl rfl rfl (by kernel_rfl) (by kernel_rfl) (by kernel_rfl) s38 (fun _ hS => px_load rfl ((f31.chg hS (by omega)).loadA (vs := [.bool (ng x1), v1, d1]) (look_lit rfl) Try.isAgg44 Try.sizeOf44)) ?_
  refine dx_take 1 rfl rfl rfl rfl (by kernel_rfl) (by kernel_rfl) (by kernel_rfl) s38 (fun _ hS => px_makeFunc rfl rfl) ?_
  refine dx_take 2 rfl rfl rfl rfl (by kernel_rfl) (by kernel_rfl) (by kernel_rfl) s38 (fun _ hS => px_load rfl ((f32.chg hS (by omega)).loadA (vs := [.bool (ng x2), v2, d2]) (look_lit rfl) Try.isAgg44 Try.sizeOf44)) ?_
  refine dx_take 3 rfl rfl rfl rfl (by kernel_rfl) (by kernel_rfl) (by kernel_rfl) s38 (fun _ hS => px_makeFunc rfl rfl) ?_
  refine dx_take 4 rfl rfl rfl rfl (by kernel_rfl) (by kernel_rfl) (by kernel_rfl) s38 (fun _ hS => px_assign rfl) ?_
  refine dx_take 5 rfl rfl rfl rfl (by kernel_rfl) (by kernel_rfl) (by kernel_rfl) s38 (fun _ hS => px_assign rfl) ?_
  refine dx_done (by kernel_rfl) ?_
  refine q_n (k30 _ _ ?_)
  refine sx_sub (Sub.cons (t := 2) rfl (.cons (t := 3) rfl (.cons (t := 4) rfl (.cons (t := 5) rfl (.cons (t := 6) rfl (.cons (t := 7) rfl (.nil))))))) ?_
  refine sx_seq fun K39 k39 => ?_
  have f40 := f31.ext d38
  have f41 := f32.ext d38
  have f42 := f34.ext d38
  have f43 := f35.ext d38
  have f44 := f36.ext d38
  have f45 := f37.ext d38
  refine dx_region (fun w' => Chg b6 (b6 + 1) w38 w') (by kernel_rfl) (Chg.zero (Chg.drew _)) ?_
  have d46 := Chg.drew w38
  have s46 : Chg b6 (b6 + 1) w38 (World.drew w38) := Chg.zero (Chg.drew _)
  have y46 : (World.drew w38).heap.size = w38.heap.size := rfl
  generalize World.drew w38 = w46 at *
  have zw46 := d46.size
  refine dx_take 0 rfl rfl rfl rfl (by kernel_rfl) (by kernel_rfl) (by kernel_rfl) s46 (fun _ hS => px_move rfl) ?_
  refine dx_take 1 rfl rfl rfl rfl (by kernel_rfl) (by kernel_rfl) (by kernel_rfl) s46 (fun _ hS => px_field rfl xfld44x1) ?_
  refine dx_take 2 rfl rfl rfl rfl (by kernel_rfl) (by kernel_rfl) (by kernel_rfl) s46 (fun _ hS => px_load rfl ((f41.chg hS (by omega)).load1 rfl Try.isAgg22)) ?_
  refine dx_take 4 rfl rfl rfl rfl (by kernel_rfl) (by kernel_rfl) (by kernel_rfl) s46 (fun _ hS => px_move rfl) ?_
  refine dx_take 5 rfl rfl rfl rfl (by kernel_rfl) (by kernel_rfl) (by kernel_rfl) s46 (fun _ hS => px_field rfl xfld44x1) ?_
  refine dx_take 6 rfl rfl rfl rfl (by kernel_rfl) (by kernel_rfl) (by kernel_rfl) s46 (fun _ hS => px_load rfl ((f40.chg hS (by omega)).load1 rfl Try.isAgg22)) ?_
  refine dx_take 9 rfl rfl rfl rfl (by kernel_rfl) (by kernel_rfl) (by kernel_rfl) s46 (fun _ hS => px_field rfl xfld44x1) ?_
  refine dx_take 10 rfl rfl rfl rfl (by kernel_rfl) (by kernel_rfl) (by kernel_rfl) s46 (fun _ hS => px_load rfl ((f40.chg hS (by omega)).load1 rfl Try.isAgg22)) ?_
  refine dx_take 11 rfl rfl rfl rfl (by kernel_rfl) (by kernel_rfl) (by kernel_rfl) s46 (fun _ hS => px_field rfl xfld44x1) ?_
  refine dx_take 12 rfl rfl rfl rfl (by kernel_rfl) (by kernel_rfl) (by kernel_rfl) s46 (fun _ hS => px_load rfl ((f41.chg hS (by omega)).load1 rfl Try.isAgg22)) ?_
  refine dx_eff 3 rfl (by kernel_rfl) ?_
  have f47 := f42.ext d46
  have f48 := f43.ext d46
  have f49 := f45.ext d46
  refine sx_callV rfl rfl rfl Try.call59 (c_ratNum f47 f48 f49 (by omega) (by omega)) (fun v50 w50 p50 => ?_)
  obtain ⟨s50, rfl, os_50, c50⟩ := p50
  have zw50 := c50.size
  have s51 : Chg b6 (b6 + 1) w38 w50 := (Chg.zero (l := b6) (h := (b6 + 1)) (d46.t c50))
  refine wl_nil ?_
  refine dx_next s51 ?_
  refine dx_eff 7 rfl (by kernel_rfl) ?_
  have f52 := f44.ext d46
  have f53 := f52.ext c50
  have f54 := f49.ext c50
  have f55 := f48.ext c50
  refine sx_callV rfl rfl rfl Try.call59 (c_ratNum f53 f54 f55 (by omega) (by omega)) (fun v56 w56 p56 => ?_)
  obtain ⟨s56, rfl, os_56, c56⟩ := p56
  have zw56 := c56.size
  have s57 : Chg b6 (b6 + 1) w38 w56 := (Chg.zero (l := b6) (h := (b6 + 1)) ((d46.t c50).t c56))
  refine wl_nil ?_
  refine dx_next s57 ?_
  refine dx_eff 8 rfl (by kernel_rfl) ?_
  have f58 := os_50.ext c56
  refine sx_call rfl rfl Try.call124 (c_intAdd f58.sv os_56.sv (by rw [a1]; omega) (by rw [a2]; omega)) (fun v59 w59 p59 => ?_)
  obtain ⟨s59, rfl, os_59, c59⟩ := p59
  have zw59 := c59.size
  have s60 : Chg b6 (b6 + 1) w38 w59 := (Chg.zero (l := b6) (h := (b6 + 1)) (((d46.t c50).t c56).t c59))
  refine wl_nil ?_
  refine dx_next s60 ?_
  refine dx_eff 13 rfl (by kernel_rfl) ?_
  have f61 := f55.ext c56
  have f62 := f61.ext c59
  have f63 := f54.ext c56
  have f64 := f63.ext c59
  refine sx_call rfl rfl Try.call77 (c_natMul f62 f64 (by omega) (by omega)) (fun v65 w65 p65 => ?_)
  obtain ⟨s65, rfl, os_65, c65⟩ := p65
  have zw65 := c65.size
  have s66 : Chg b6 (b6 + 1) w38 w65 := (Chg.zero (l := b6) (h := (b6 + 1)) ((((d46.t c50).t c56).t c59).t c65))
  refine wl_nil ?_
  refine dx_next s66 ?_
  refine dx_eff 14 rfl (by kernel_rfl) ?_
  have f67 := os_59.ext c65
  refine sx_call rfl rfl Try.call110 (c_reduce f67.sv os_65.sv (by omega) (by omega) (Nat.mul_pos hp1 hp2)) (fun v68 w68 p68 => ?_)
  obtain ⟨s68, t68, ls68, us68, lt68, ut68, rfl, os_68, ot_68, hd68, hl68, c68⟩ := p68
  have zw68 := c68.size
  have s69 : Chg b6 (b6 + 1) w38 w68 := (Chg.zero (l := b6) (h := (b6 + 1)) (((((d46.t c50).t c56).t c59).t c65).t c68))
  refine wl_nil ?_
  refine dx_next s69 ?_
  refine dx_take 15 rfl rfl rfl rfl (by kernel_rfl) (by kernel_rfl) (by kernel_rfl) s69 (fun _ hS => px_extract (vs := [.agg #[.bool ((rR (sgI (ng ((x1 * ((e2 : Nat) : Int)) + (x2 * ((e1 : Nat) : Int)))) (((x1 * ((e2 : Nat) : Int)) + (x2 * ((e1 : Nat) : Int))).natAbs)) (e1 * e2)).1), s68, t68], .bool ((rR (sgI (ng ((x1 * ((e2 : Nat) : Int)) + (x2 * ((e1 : Nat) : Int)))) (((x1 * ((e2 : Nat) : Int)) + (x2 * ((e1 : Nat) : Int))).natAbs)) (e1 * e2)).2.2.2)]) rfl rfl) ?_
  refine dx_take 16 rfl rfl rfl rfl (by kernel_rfl) (by kernel_rfl) (by kernel_rfl) s69 (fun _ hS => px_extract (vs := [.agg #[.bool ((rR (sgI (ng ((x1 * ((e2 : Nat) : Int)) + (x2 * ((e1 : Nat) : Int)))) (((x1 * ((e2 : Nat) : Int)) + (x2 * ((e1 : Nat) : Int))).natAbs)) (e1 * e2)).1), s68, t68], .bool ((rR (sgI (ng ((x1 * ((e2 : Nat) : Int)) + (x2 * ((e1 : Nat) : Int)))) (((x1 * ((e2 : Nat) : Int)) + (x2 * ((e1 : Nat) : Int))).natAbs)) (e1 * e2)).2.2.2)]) rfl rfl) ?_
  refine dx_eff 17 rfl (by kernel_rfl) ?_
  have f71 := f33.ext d38
  have f72 := f71.ext d46
  have f73 := f72.ext c50
  have f74 := f73.ext c56
  have f75 := f74.ext c59
  have f76 := f75.ext c65
  have f77 := f76.ext c68
  refine sx_store (vs := [.bool ((rR (sgI (ng ((x1 * ((e2 : Nat) : Int)) + (x2 * ((e1 : Nat) : Int)))) (((x1 * ((e2 : Nat) : Int)) + (x2 * ((e1 : Nat) : Int))).natAbs)) (e1 * e2)).1), s68, t68]) rfl rfl f77 rfl Try.sizeOf44 (Nat.le_of_ble_eq_true rfl) (one_cons rfl (one_cons os_68.one (one_cons ot_68.one one_nil))) (fun w70 sw70 fw70 cw70 => ?_)
  have zw70 := cw70.size
  have gw70 : Blk w70 b6 [.bool ((rR (sgI (ng ((x1 * ((e2 : Nat) : Int)) + (x2 * ((e1 : Nat) : Int)))) (((x1 * ((e2 : Nat) : Int)) + (x2 * ((e1 : Nat) : Int))).natAbs)) (e1 * e2)).1), s68, t68] 44 := fw70
  have q79 := Chg.step (l := b6) (h := (b6 + 1)) (Chg.zero (l := b6) (h := (b6 + 1)) (((((d46.t c50).t c56).t c59).t c65).t c68)) cw70 (by omega)
  have s78 : Chg b6 (b6 + 1) w38 w70 := q79
  refine wl_nil ?_
  refine dx_next s78 ?_
  refine dx_take 18 rfl rfl rfl rfl (by kernel_rfl) (by kernel_rfl) (by kernel_rfl) s78 (fun _ hS => px_assign rfl) ?_
  refine dx_done (by kernel_rfl) ?_
  refine q_n (k39 _ _ ?_)
  refine sx_sub (Sub.cons (t := 4) rfl (.cons (t := 5) rfl (.nil))) ?_
  refine sx_retc ?_
  refine sx_ret2 Try.results107 ⟨_, rfl, gw70.loadA (vs := [.bool ((rR (sgI (ng ((x1 * ((e2 : Nat) : Int)) + (x2 * ((e1 : Nat) : Int)))) (((x1 * ((e2 : Nat) : Int)) + (x2 * ((e1 : Nat) : Int))).natAbs)) (e1 * e2)).1), s68, t68]) (look_lit rfl) Try.isAgg44 Try.sizeOf44⟩ rfl ?_
  have hrl := rAdd_len (n1 := ng x1) (z1 := dg x1.natAbs) (y1 := dg e1) (n2 := ng x2) (z2 := dg x2.natAbs) (y2 := dg e2)
  have hre : rAdd (ng x1) (dg x1.natAbs) (dg e1) (ng x2) (dg x2.natAbs) (dg e2) = rR (sgI (ng (x1 * (e2 : Int) + x2 * (e1 : Int))) (x1 * (e2 : Int) + x2 * (e1 : Int)).natAbs) (e1 * e2) := by rw [rAdd_ok hR1 hR2, sgI_ng]
  rw [hre] at hrl ⊢
  have q80 := Chg.step (l := 0) (h := 0) (Chg.zero (l := 0) (h := 0) ((((((((((cb2.t cb4).t cb6).t c25).t d38).t d46).t c50).t c56).t c59).t c65).t c68)) cw70 (by omega)
  have f81 := os_68.chg cw70 (by omega)
  have f82 := ot_68.chg cw70 (by omega)
  exact ⟨_, _, _, _, _, _, rfl, f81, f82, by omega, hrl, q80⟩

theorem c_iRatSub {w : World} {n1 : Bool} {v1 : Value} {lv1 uv1 : Nat} {z1 : List Int} {d1 : Value} {ld1 ud1 : Nat} {y1 : List Int} {n2 : Bool} {v2 : Value} {lv2 uv2 : Nat} {z2 : List Int} {d2 : Value} {ld2 ud2 : Nat} {y2 : List Int} (hv1 : Sl w lv1 uv1 v1 (z1)) (hd1 : Sl w ld1 ud1 d1 (y1)) (hv2 : Sl w lv2 uv2 v2 (z2)) (hd2 : Sl w ld2 ud2 d2 (y2)) (h63 : z1.length ≤ 4611686018427387904 ∧ y1.length ≤ 4611686018427387904 ∧ z2.length ≤ 4611686018427387904 ∧ y2.length ≤ 4611686018427387904) :
  Ret Try.prog 67 [.agg #[.bool n1, v1, d1], .agg #[.bool n2, v2, d2]] w fun v w' => ∃ s t ls us lt ut, v = .tuple #[.agg #[.bool ((rSub n1 z1 y1 n2 z2 y2).1), s, t], .bool ((rSub n1 z1 y1 n2 z2 y2).2.2.2)] ∧ OwnI w' (ls) (us) s intT ((rSub n1 z1 y1 n2 z2 y2).2.1) ∧ OwnI w' (lt) (ut) t intT ((rSub n1 z1 y1 n2 z2 y2).2.2.1) ∧ (w.heap.size ≤ ls ∧ us ≤ w'.heap.size ∧ w.heap.size ≤ lt ∧ ut ≤ w'.heap.size ∧ (us ≤ lt ∨ ut ≤ ls)) ∧ ((rSub n1 z1 y1 n2 z2 y2).2.1.length ≤ 18 ∧ (rSub n1 z1 y1 n2 z2 y2).2.2.1.length ≤ 18) ∧ Chg 0 0 w w' := by
 have hv10 := hv1.fit
 have hd10 := hd1.fit
 have hv20 := hv2.fit
 have hd20 := hd2.fit
 refine sx_enter Try.func67 rfl Try.ntmps67 (Nat.le_of_ble_eq_true rfl) ?_
 refine sx_seq fun K1 k1 => sx_region ?_
 refine sx_box [.bool n1, v1, d1] rfl rfl rfl (fun b2 w3 eb2 sb2 fb2 cb2 => ?_)
 have zw3 := cb2.size
 refine sx_box [.bool n2, v2, d2] rfl rfl rfl (fun b4 w5 eb4 sb4 fb4 cb4 => ?_)
 have zw5 := cb4.size
 refine sx_alloc [.bool false, (.slice none 0 0), (.slice none 0 0)] rfl Try.zeroValue44 rfl (fun b6 w7 eb6 sb6 fb6 cb6 => ?_)
 have zw7 := cb6.size
 refine sa rfl rfl rfl rfl ?_
 refine wl_nil (q_n (k1 _ _ ?_))
 refine sx_seq fun K8 k8 => ?_
 refine sx_seq fun K9 k9 => sx_region ?_
 have f10 := fb2.ext cb4
 have f11 := f10.ext cb6
 refine sx_pure rfl rfl rfl (px_load rfl (f11.loadA (vs := [.bool n1, v1, d1]) (look_lit rfl) Try.isAgg44 Try.sizeOf44)) ?_
 have f12 := fb4.ext cb6
 refine sx_pure rfl rfl rfl (px_load rfl (f12.loadA (vs := [.bool n2, v2, d2]) (look_lit rfl) Try.isAgg44 Try.sizeOf44)) ?_
 have f13 := hv10.ext cb2
 have f14 := f13.ext cb4
 have f15 := f14.ext cb6
 have f16 := hd10.ext cb2
 have f17 := f16.ext cb4
 have f18 := f17.ext cb6
 have f19 := hv20.ext cb2
 have f20 := f19.ext cb4
 have f21 := f20.ext cb6
 have f22 := hd20.ext cb2
 have f23 := f22.ext cb4
 have f24 := f23.ext cb6
 refine sx_call rfl rfl Try.call106 (c_ratsOk f15 f18 f21 f24 (by omega)) (fun v25 w25 p25 => ?_)
 obtain ⟨rfl, c25⟩ := p25
 have zw25 := c25.size
 refine sx_pure rfl rfl rfl (px_notP rfl) ?_
 refine wl_nil (q_n (k9 _ _ ?_))
 refine sx_condP rfl (fun h66 => ?_) (fun h66 => ?_)
 ·
  refine sx_seq fun K26 k26 => sx_region ?_
  refine sx_pure rfl rfl rfl (px_build rfl (xbld44x  _)) ?_
  have f28 := fb6.ext c25
  refine sx_store (vs := [.bool false, (.slice none 0 0), (.slice none 0 0)]) rfl rfl f28 rfl Try.sizeOf44 (Nat.le_of_ble_eq_true rfl) (one_cons rfl (one_cons rfl (one_cons rfl one_nil))) (fun w27 sw27 fw27 cw27 => ?_)
  have zw27 := cw27.size
  have gw27 : Blk w27 b6 [.bool false, (.slice none 0 0), (.slice none 0 0)] 44 := fw27
  refine sa rfl rfl rfl rfl ?_
  refine wl_nil (q_n (k26 _ _ ?_))
  refine sx_retc ?_
  refine q_r (sx_ret2 Try.results67 ⟨_, rfl, gw27.loadA (vs := [.bool false, (.slice none 0 0), (.slice none 0 0)]) (look_lit rfl) Try.isAgg44 Try.sizeOf44⟩ rfl ?_)
  rw [rSub_no h66]
  have q29 := Chg.step (l := 0) (h := 0) (Chg.zero (l := 0) (h := 0) (((cb2.t cb4).t cb6).t c25)) cw27 (by omega)
  exact ⟨_, _, w.heap.size, w.heap.size, w.heap.size, w.heap.size, rfl, Own.nil _ _ _ _ _, Own.nil _ _ _ _ _, by omega, ⟨by simp [noR], by simp [noR]⟩, q29⟩
 ·
  have hR := Decidable.not_not.1 h66
  have hR2 := hR.2
  obtain ⟨x2, e2, rfl, rfl, rfl, hp2, hx2, hy2, hg2⟩ := hR2.rat
  have hn2 : (dg (-x2).natAbs).length ≤ 18 := by rw [Int.natAbs_neg]; exact hx2
  refine sx_skip ?_
  refine q_n (k8 _ _ ?_)
  refine sx_seq fun K30 k30 => ?_
  have f31 := f11.ext c25
  have f32 := f12.ext c25
  have f33 := f15.ext c25
  have f34 := f18.ext c25
  have f35 := f21.ext c25
  have f36 := f24.ext c25
  refine dx_region (fun w' => Chg b6 (b6 + 1) w25 w') (by kernel_rfl) (Chg.zero (Chg.drew _)) ?_
  have d37 := Chg.drew w25
  have s37 : Chg b6 (b6 + 1) w25 (World.drew w25) := Chg.zero (Chg.drew _)
  have y37 : (World.drew w25).heap.size = w25.heap.size := rfl
  generalize World.drew w25 = w37 at *
  have zw37 := d37.size
  refine dx_take 0 rfl rfl rfl rfl (by kernel_rfl) (by kernel_rfl) (by kernel_rfl) s37 (fun _ hS => px_load rfl ((f31.chg hS (by omega)).loadA (vs := [.bool n1, v1, d1]) (look_lit rfl) Try.isAgg44 Try.sizeOf44)) ?_
  refine dx_take 1 rfl rfl rfl rfl (by kernel_rfl) (by kernel_rfl) (by kernel_rfl) s37 (fun _ hS => px_load rfl ((f32.chg hS (by omega)).loadA (vs := [.bool (ng x2), v2, d2]) (look_lit rfl) Try.isAgg44 Try.sizeOf44)) ?_
  refine dx_eff 2 rfl (by kernel_rfl) ?_
  have f38 := f35.ext d37
  have f39 := f36.ext d37
  refine sx_call rfl rfl Try.call108 (c_ratNeg f38 f39 (by omega) (by omega)) (fun v40 w40 p40 => ?_)
  obtain ⟨s40, t40, ls40, us40, lt40, ut40, rfl, os_40, ot_40, hd40, c40⟩ := p40
  have zw40 := c40.size
  have s41 : Chg b6 (b6 + 1) w25 w40 := (Chg.zero (l := b6) (h := (b6 + 1)) (d37.t c40))
  refine wl_nil ?_
  refine dx_next s41 ?_
  refine dx_eff 3 rfl (by kernel_rfl) ?_
  have f42 := f33.ext d37
  have f43 := f42.ext c40
  have f44 := f34.ext d37
  have f45 := f44.ext c40
  refine sx_call rfl rfl Try.call107 (c_iRatAdd f43 f45 os_40.sv ot_40.sv (by omega)) (fun v46 w46 p46 => ?_)
  obtain ⟨s46, t46, ls46, us46, lt46, ut46, rfl, os_46, ot_46, hd46, hl46, c46⟩ := p46
  have zw46 := c46.size
  have s47 : Chg b6 (b6 + 1) w25 w46 := (Chg.zero (l := b6) (h := (b6 + 1)) ((d37.t c40).t c46))
  refine wl_nil ?_
  refine dx_next s47 ?_
  refine dx_take 4 rfl rfl rfl rfl (by kernel_rfl) (by kernel_rfl) (by kernel_rfl) s47 (fun _ hS => px_extract (vs := [.agg #[.bool ((rAdd n1 z1 y1 (ng (-x2)) (dg (-x2).natAbs) (dg e2)).1), s46, t46], .bool ((rAdd n1 z1 y1 (ng (-x2)) (dg (-x2).natAbs) (dg e2)).2.2.2)]) rfl rfl) ?_
  refine dx_take 5 rfl rfl rfl rfl (by kernel_rfl) (by kernel_rfl) (by kernel_rfl) s47 (fun _ hS => px_extract (vs := [.agg #[.bool ((rAdd n1 z1 y1 (ng (-x2)) (dg (-x2).natAbs) (dg e2)).1), s46, t46], .bool ((rAdd n1 z1 y1 (ng (-x2)) (dg (-x2).natAbs) (dg e2)).2.2.2)]) rfl rfl) ?_
  refine dx_eff 6 rfl (by kernel_rfl) ?_
  have f49 := fb6.ext c25
  have f50 := f49.ext d37
  have f51 := f50.ext c40
  have f52 := f51.ext c46
  refine sx_store (vs := [.bool ((rAdd n1 z1 y1 (ng (-x2)) (dg (-x2).natAbs) (dg e2)).1), s46, t46]) rfl rfl f52 rfl Try.sizeOf44 (Nat.le_of_ble_eq_true rfl) (one_cons rfl (one_cons os_46.one (one_cons ot_46.one one_nil))) (fun w48 sw48 fw48 cw48 => ?_)
  have zw48 := cw48.size
  have gw48 : Blk w48 b6 [.bool ((rAdd n1 z1 y1 (ng (-x2)) (dg (-x2).natAbs) (dg e2)).1), s46, t46] 44 := fw48
  have q54 := Chg.step (l := b6) (h := (b6 + 1)) (Chg.zero (l := b6) (h := (b6 + 1)) ((d37.t c40).t c46)) cw48 (by omega)
  have s53 : Chg b6 (b6 + 1) w25 w48 := q54
  refine wl_nil ?_
  refine dx_next s53 ?_
  refine dx_take 7 rfl rfl rfl rfl (by kernel_rfl) (by kernel_rfl) (by kernel_rfl) s53 (fun _ hS => px_assign rfl) ?_
  refine dx_done (by kernel_rfl) ?_
  refine q_n (k30 _ _ ?_)
  refine sx_sub (Sub.cons (t := 4) rfl (.cons (t := 5) rfl (.nil))) ?_
  refine sx_retc ?_
  refine sx_ret2 Try.results67 ⟨_, rfl, gw48.loadA (vs := [.bool ((rAdd n1 z1 y1 (ng (-x2)) (dg (-x2).natAbs) (dg e2)).1), s46, t46]) (look_lit rfl) Try.isAgg44 Try.sizeOf44⟩ rfl ?_
  have hrl := rSub_len (n1 := n1) (z1 := z1) (y1 := y1) (n2 := ng x2) (z2 := dg x2.natAbs) (y2 := dg e2)
  rw [rSub_ok hR.1 hR2] at hrl ⊢
  have q55 := Chg.step (l := 0) (h := 0) (Chg.zero (l := 0) (h := 0) ((((((cb2.t cb4).t cb6).t c25).t d37).t c40).t c46)) cw48 (by omega)
  have f56 := os_46.chg cw48 (by omega)
  have f57 := ot_46.chg cw48 (by omega)
  exact ⟨_, _, _, _, _, _, rfl, f56, f57, by omega, hrl, q55⟩

theorem c_iRatRest {w : World} {n1 : Bool} {v1 : Value} {lv1 uv1 : Nat} {z1 : List Int} {d1 : Value} {ld1 ud1 : Nat} {y1 : List Int} {m : Int} (hv1 : Sl w lv1 uv1 v1 (z1)) (hd1 : Sl w ld1 ud1 d1 (y1)) (h63 : z1.length ≤ 4611686018427387904 ∧ y1.length ≤ 4611686018427387904) :
  Ret Try.prog 24 [.agg #[.bool n1, v1, d1], .int .i64 m] w fun v w' => ∃ s t u ls us lt ut lu uu, v = .tuple #[.agg #[.bool ((rRest n1 z1 y1 m).1.1), s], .agg #[.bool ((rRest n1 z1 y1 m).2.1.1), t, u], .bool ((rRest n1 z1 y1 m).2.2)] ∧ OwnI w' (ls) (us) s intT ((rRest n1 z1 y1 m).1.2) ∧ OwnI w' (lt) (ut) t intT ((rRest n1 z1 y1 m).2.1.2.1) ∧ OwnI w' (lu) (uu) u intT ((rRest n1 z1 y1 m).2.1.2.2) ∧ (w.heap.size ≤ ls ∧ us ≤ w'.heap.size ∧ w.heap.size ≤ lt ∧ ut ≤ w'.heap.size ∧ w.heap.size ≤ lu ∧ uu ≤ w'.heap.size ∧ us ≤ lt ∧ us ≤ lu ∧ (ut ≤ lu ∨ uu ≤ lt)) ∧ ((rRest n1 z1 y1 m).1.2.length ≤ 19 ∧ (rRest n1 z1 y1 m).2.1.2.1.length ≤ 18 ∧ (rRest n1 z1 y1 m).2.1.2.2.length ≤ 18) ∧ Chg 0 0 w w' := by
 have hv10 := hv1.fit
 have hd10 := hd1.fit
 refine sx_enter Try.func24 rfl Try.ntmps24 (Nat.le_of_ble_eq_true rfl) ?_
 refine sx_seq fun K1 k1 => sx_region ?_
 refine sx_box [.bool n1, v1, d1] rfl rfl rfl (fun b2 w3 eb2 sb2 fb2 cb2 => ?_)
 have zw3 := cb2.size
 refine sx_alloc [.bool false, (.slice none 0 0)] rfl Try.zeroValue28 rfl (fun b4 w5 eb4 sb4 fb4 cb4 => ?_)
 have zw5 := cb4.size
 refine sx_alloc [.bool false, (.slice none 0 0), (.slice none 0 0)] rfl Try.zeroValue44 rfl (fun b6 w7 eb6 sb6 fb6 cb6 => ?_)
 have zw7 := cb6.size
 refine sa rfl rfl rfl rfl ?_
 refine wl_nil (q_n (k1 _ _ ?_))
 refine sx_seq fun K8 k8 => sx_region ?_
 have f9 := fb2.ext cb4
 have f10 := f9.ext cb6
 refine sx_pure rfl rfl rfl (px_load rfl (f10.loadA (vs := [.bool n1, v1, d1]) (look_lit rfl) Try.isAgg44 Try.sizeOf44)) ?_
 refine sm rfl rfl rfl rfl ?_
 have f11 := hv10.ext cb2
 have f12 := f11.ext cb4
 have f13 := f12.ext cb6
 have f14 := hd10.ext cb2
 have f15 := f14.ext cb4
 have f16 := f15.ext cb6
 refine sx_call rfl rfl Try.call65 (c_iRatRound f13 f16 (by omega)) (fun v17 w17 p17 => ?_)
 obtain ⟨s17, rfl, os_17, hl17, c17⟩ := p17
 have zw17 := c17.size
 refine sm rfl rfl rfl rfl ?_
 refine sx_pure rfl rfl rfl (px_extract (vs := [.agg #[.bool ((rRound n1 z1 y1 m).1), s17], .bool ((rRound n1 z1 y1 m).2.2)]) rfl rfl) ?_
 refine sx_pure rfl rfl rfl (px_extract (vs := [.agg #[.bool ((rRound n1 z1 y1 m).1), s17], .bool ((rRound n1 z1 y1 m).2.2)]) rfl rfl) ?_
 refine sx_alloc [.bool false, (.slice none 0 0)] rfl Try.zeroValue28 rfl (fun b18 w19 eb18 sb18 fb18 cb18 => ?_)
 have zw19 := cb18.size
 have f21 := os_17.ext cb18
 refine sx_store (vs := [.bool ((rRound n1 z1 y1 m).1), s17]) rfl rfl fb18 rfl Try.sizeOf28 (Nat.le_of_ble_eq_true rfl) (one_cons rfl (one_cons f21.one one_nil)) (fun w20 sw20 fw20 cw20 => ?_)
 have zw20 := cw20.size
 have gw20 : Blk w20 b18 [.bool ((rRound n1 z1 y1 m).1), s17] 28 := fw20
 refine sa rfl rfl rfl rfl ?_
 refine wl_nil (q_n (k8 _ _ ?_))
 refine sx_seq fun K22 k22 => ?_
 refine sx_seq fun K23 k23 => sx_region ?_
 refine sm rfl rfl rfl rfl ?_
 refine sx_pure rfl rfl rfl (px_not rfl) ?_
 refine wl_nil (q_n (k23 _ _ ?_))
 refine sx_sub (Sub.cons (t := 2) rfl (.cons (t := 4) rfl (.cons (t := 5) rfl (.cons (t := 6) rfl (.cons (t := 7) rfl (.cons (t := 20) rfl (.nil))))))) ?_
 refine sx_condB rfl (fun h83 => ?_) (fun h83 => ?_)
 ·
  refine sx_seq fun K24 k24 => sx_region ?_
  refine sx_pure rfl rfl rfl (px_build rfl (xbld28x  _)) ?_
  refine sx_pure rfl rfl rfl (px_build rfl (xbld44x  _)) ?_
  have f26 := fb4.ext cb6
  have f27 := f26.ext c17
  have f28 := f27.ext cb18
  have f29 := f28.chg cw20 (by omega)
  refine sx_store (vs := [.bool false, (.slice none 0 0)]) rfl rfl f29 rfl Try.sizeOf28 (Nat.le_of_ble_eq_true rfl) (one_cons rfl (one_cons rfl one_nil)) (fun w25 sw25 fw25 cw25 => ?_)
  have zw25 := cw25.size
  have gw25 : Blk w25 b4 [.bool false, (.slice none 0 0)] 28 := fw25
  have f31 := fb6.ext c17
  have f32 := f31.ext cb18
  have f33 := f32.chg cw20 (by omega)
  have f34 := f33.chg cw25 (by omega)
  refine sx_store (vs := [.bool false, (.slice none 0 0), (.slice none 0 0)]) rfl rfl f34 rfl Try.sizeOf44 (Nat.le_of_ble_eq_true rfl) (one_cons rfl (one_cons rfl (one_cons rfl one_nil))) (fun w30 sw30 fw30 cw30 => ?_)
  have zw30 := cw30.size
  have gw30 : Blk w30 b6 [.bool false, (.slice none 0 0), (.slice none 0 0)] 44 := fw30
  refine sa rfl rfl rfl rfl ?_
  refine wl_nil (q_n (k24 _ _ ?_))
  refine sx_retc ?_
  have f35 := gw25.chg cw30 (by omega)
  refine q_r (sx_ret3 Try.results24 ⟨_, rfl, f35.loadA (vs := [.bool false, (.slice none 0 0)]) (look_lit rfl) Try.isAgg28 Try.sizeOf28⟩ ⟨_, rfl, gw30.loadA (vs := [.bool false, (.slice none 0 0), (.slice none 0 0)]) (look_lit rfl) Try.isAgg44 Try.sizeOf44⟩ rfl ?_)
  rw [rRest_no (fun hh => by first | exact bcl hh.1 h83 | exact bcl hh.2.1 h88 | exact bcl hh.2.2 h88x1)]
  have q36 := Chg.step (l := 0) (h := 0) (Chg.zero (l := 0) (h := 0) ((((cb2.t cb4).t cb6).t c17).t cb18)) cw20 (by omega)
  have q37 := Chg.step (l := 0) (h := 0) q36 cw25 (by omega)
  have q38 := Chg.step (l := 0) (h := 0) q37 cw30 (by omega)
  exact ⟨_, _, _, w.heap.size, w.heap.size, w.heap.size, w.heap.size, w.heap.size, w.heap.size, rfl, Own.nil _ _ _ _ _, Own.nil _ _ _ _ _, Own.nil _ _ _ _ _, by omega, ⟨by simp, by simp, by simp⟩, q38⟩
 ·
  refine sx_skip ?_
  refine q_n (k22 _ _ ?_)
  refine sx_seq fun K39 k39 => sx_region ?_
  refine sx_pure rfl rfl rfl (px_load rfl (gw20.loadA (vs := [.bool ((rRound n1 z1 y1 m).1), s17]) (look_lit rfl) Try.isAgg28 Try.sizeOf28)) ?_
  have f40 := f21.chg cw20 (by omega)
  refine sx_call rfl rfl Try.call66 (c_iRatInt f40.sv (by omega)) (fun v41 w41 p41 => ?_)
  obtain ⟨s41, t41, ls41, us41, lt41, ut41, rfl, os_41, ot_41, hd41, hl41, c41⟩ := p41
  have zw41 := c41.size
  refine sm rfl rfl rfl rfl ?_
  refine sx_pure rfl rfl rfl (px_extract (vs := [.agg #[.bool ((rInt ((rRound n1 z1 y1 m).1) ((rRound n1 z1 y1 m).2.1)).1), s41, t41], .bool ((rInt ((rRound n1 z1 y1 m).1) ((rRound n1 z1 y1 m).2.1)).2.2.2)]) rfl rfl) ?_
  refine sx_pure rfl rfl rfl (px_extract (vs := [.agg #[.bool ((rInt ((rRound n1 z1 y1 m).1) ((rRound n1 z1 y1 m).2.1)).1), s41, t41], .bool ((rInt ((rRound n1 z1 y1 m).1) ((rRound n1 z1 y1 m).2.1)).2.2.2)]) rfl rfl) ?_
  refine sx_alloc [.bool false, (.slice none 0 0), (.slice none 0 0)] rfl Try.zeroValue44 rfl (fun b42 w43 eb42 sb42 fb42 cb42 => ?_)
  have zw43 := cb42.size
  have f45 := ot_41.ext cb42
  have f46 := os_41.ext cb42
  refine sx_store (vs := [.bool ((rInt ((rRound n1 z1 y1 m).1) ((rRound n1 z1 y1 m).2.1)).1), s41, t41]) rfl rfl fb42 rfl Try.sizeOf44 (Nat.le_of_ble_eq_true rfl) (one_cons rfl (one_cons f46.one (one_cons f45.one one_nil))) (fun w44 sw44 fw44 cw44 => ?_)
  have zw44 := cw44.size
  have gw44 : Blk w44 b42 [.bool ((rInt ((rRound n1 z1 y1 m).1) ((rRound n1 z1 y1 m).2.1)).1), s41, t41] 44 := fw44
  refine sa rfl rfl rfl rfl ?_
  refine wl_nil (q_n (k39 _ _ ?_))
  refine sx_seq fun K47 k47 => sx_region ?_
  have f48 := f10.ext c17
  have f49 := f48.ext cb18
  have f50 := f49.chg cw20 (by omega)
  have f51 := f50.ext c41
  have f52 := f51.ext cb42
  have f53 := f52.chg cw44 (by omega)
  refine sx_pure rfl rfl rfl (px_load rfl (f53.loadA (vs := [.bool n1, v1, d1]) (look_lit rfl) Try.isAgg44 Try.sizeOf44)) ?_
  refine sx_pure rfl rfl rfl (px_load rfl (gw44.loadA (vs := [.bool ((rInt ((rRound n1 z1 y1 m).1) ((rRound n1 z1 y1 m).2.1)).1), s41, t41]) (look_lit rfl) Try.isAgg44 Try.sizeOf44)) ?_
  have f54 := f13.ext c17
  have f55 := f54.ext cb18
  have f56 := f55.chg cw20 (by omega)
  have f57 := f56.ext c41
  have f58 := f57.ext cb42
  have f59 := f58.chg cw44 (by omega)
  have f60 := f16.ext c17
  have f61 := f60.ext cb18
  have f62 := f61.chg cw20 (by omega)
  have f63 := f62.ext c41
  have f64 := f63.ext cb42
  have f65 := f64.chg cw44 (by omega)
  have f66 := f46.chg cw44 (by omega)
  have f67 := f45.chg cw44 (by omega)
  refine sx_call rfl rfl Try.call67 (c_iRatSub f59 f65 f66.sv f67.sv (by omega)) (fun v68 w68 p68 => ?_)
  obtain ⟨s68, t68, ls68, us68, lt68, ut68, rfl, os_68, ot_68, hd68, hl68, c68⟩ := p68
  have zw68 := c68.size
  refine sm rfl rfl rfl rfl ?_
  refine sx_pure rfl rfl rfl (px_extract (vs := [.agg #[.bool ((rSub n1 z1 y1 ((rInt ((rRound n1 z1 y1 m).1) ((rRound n1 z1 y1 m).2.1)).1) ((rInt ((rRound n1 z1 y1 m).1) ((rRound n1 z1 y1 m).2.1)).2.1) ((rInt ((rRound n1 z1 y1 m).1) ((rRound n1 z1 y1 m).2.1)).2.2.1)).1), s68, t68], .bool ((rSub n1 z1 y1 ((rInt ((rRound n1 z1 y1 m).1) ((rRound n1 z1 y1 m).2.1)).1) ((rInt ((rRound n1 z1 y1 m).1) ((rRound n1 z1 y1 m).2.1)).2.1) ((rInt ((rRound n1 z1 y1 m).1) ((rRound n1 z1 y1 m).2.1)).2.2.1)).2.2.2)]) rfl rfl) ?_
  refine sx_pure rfl rfl rfl (px_extract (vs := [.agg #[.bool ((rSub n1 z1 y1 ((rInt ((rRound n1 z1 y1 m).1) ((rRound n1 z1 y1 m).2.1)).1) ((rInt ((rRound n1 z1 y1 m).1) ((rRound n1 z1 y1 m).2.1)).2.1) ((rInt ((rRound n1 z1 y1 m).1) ((rRound n1 z1 y1 m).2.1)).2.2.1)).1), s68, t68], .bool ((rSub n1 z1 y1 ((rInt ((rRound n1 z1 y1 m).1) ((rRound n1 z1 y1 m).2.1)).1) ((rInt ((rRound n1 z1 y1 m).1) ((rRound n1 z1 y1 m).2.1)).2.1) ((rInt ((rRound n1 z1 y1 m).1) ((rRound n1 z1 y1 m).2.1)).2.2.1)).2.2.2)]) rfl rfl) ?_
  refine sx_alloc [.bool false, (.slice none 0 0), (.slice none 0 0)] rfl Try.zeroValue44 rfl (fun b69 w70 eb69 sb69 fb69 cb69 => ?_)
  have zw70 := cb69.size
  have f72 := ot_68.ext cb69
  have f73 := os_68.ext cb69
  refine sx_store (vs := [.bool ((rSub n1 z1 y1 ((rInt ((rRound n1 z1 y1 m).1) ((rRound n1 z1 y1 m).2.1)).1) ((rInt ((rRound n1 z1 y1 m).1) ((rRound n1 z1 y1 m).2.1)).2.1) ((rInt ((rRound n1 z1 y1 m).1) ((rRound n1 z1 y1 m).2.1)).2.2.1)).1), s68, t68]) rfl rfl fb69 rfl Try.sizeOf44 (Nat.le_of_ble_eq_true rfl) (one_cons rfl (one_cons f73.one (one_cons f72.one one_nil))) (fun w71 sw71 fw71 cw71 => ?_)
  have zw71 := cw71.size
  have gw71 : Blk w71 b69 [.bool ((rSub n1 z1 y1 ((rInt ((rRound n1 z1 y1 m).1) ((rRound n1 z1 y1 m).2.1)).1) ((rInt ((rRound n1 z1 y1 m).1) ((rRound n1 z1 y1 m).2.1)).2.1) ((rInt ((rRound n1 z1 y1 m).1) ((rRound n1 z1 y1 m).2.1)).2.2.1)).1), s68, t68] 44 := fw71
  refine sa rfl rfl rfl rfl ?_
  refine wl_nil (q_n (k47 _ _ ?_))
  refine sx_sub (Sub.cons (t := 4) rfl (.cons (t := 5) rfl (.cons (t := 6) rfl (.cons (t := 7) rfl (.cons (t := 10) rfl (.cons (t := 11) rfl (.cons (t := 12) rfl (.nil)))))))) ?_
  refine sx_seq fun K74 k74 => ?_
  refine sx_seq fun K75 k75 => sx_region ?_
  refine sm rfl rfl rfl rfl ?_
  refine sx_pure rfl rfl rfl (px_not rfl) ?_
  refine sm rfl rfl rfl rfl ?_
  refine sx_tmpB (t := 36) rfl (fun h88 => ?_) (fun h88 => ?_)
  ·
   refine sx_guardF rfl rfl rfl rfl rfl rfl ?_
   refine sx_guardF rfl rfl rfl rfl rfl rfl ?_
   refine sx_pure rfl rfl rfl (px_pick rfl rfl) ?_
   refine wl_nil (q_n (k75 _ _ ?_))
   refine sx_condT rfl ?_
   refine sx_seq fun K76 k76 => sx_region ?_
   refine sx_pure rfl rfl rfl (px_build rfl (xbld28x  _)) ?_
   refine sx_pure rfl rfl rfl (px_build rfl (xbld44x  _)) ?_
   have f78 := fb4.ext cb6
   have f79 := f78.ext c17
   have f80 := f79.ext cb18
   have f81 := f80.chg cw20 (by omega)
   have f82 := f81.ext c41
   have f83 := f82.ext cb42
   have f84 := f83.chg cw44 (by omega)
   have f85 := f84.ext c68
   have f86 := f85.ext cb69
   have f87 := f86.chg cw71 (by omega)
   refine sx_store (vs := [.bool false, (.slice none 0 0)]) rfl rfl f87 rfl Try.sizeOf28 (Nat.le_of_ble_eq_true rfl) (one_cons rfl (one_cons rfl one_nil)) (fun w77 sw77 fw77 cw77 => ?_)
   have zw77 := cw77.size
   have gw77 : Blk w77 b4 [.bool false, (.slice none 0 0)] 28 := fw77
   have f89 := fb6.ext c17
   have f90 := f89.ext cb18
   have f91 := f90.chg cw20 (by omega)
   have f92 := f91.ext c41
   have f93 := f92.ext cb42
   have f94 := f93.chg cw44 (by omega)
   have f95 := f94.ext c68
   have f96 := f95.ext cb69
   have f97 := f96.chg cw71 (by omega)
   have f98 := f97.chg cw77 (by omega)
   refine sx_store (vs := [.bool false, (.slice none 0 0), (.slice none 0 0)]) rfl rfl f98 rfl Try.sizeOf44 (Nat.le_of_ble_eq_true rfl) (one_cons rfl (one_cons rfl (one_cons rfl one_nil))) (fun w88 sw88 fw88 cw88 => ?_)
   have zw88 := cw88.size
   have gw88 : Blk w88 b6 [.bool false, (.slice none 0 0), (.slice none 0 0)] 44 := fw88
   refine sa rfl rfl rfl rfl ?_
   refine wl_nil (q_n (k76 _ _ ?_))
   refine sx_sub (Sub.cons (t := 4) rfl (.cons (t := 5) rfl (.cons (t := 6) rfl (.cons (t := 7) rfl (.cons (t := 11) rfl (.nil)))))) ?_
   refine sx_retc ?_
   have f99 := gw77.chg cw88 (by omega)
   refine q_r (sx_ret3 Try.results24 ⟨_, rfl, f99.loadA (vs := [.bool false, (.slice none 0 0)]) (look_lit rfl) Try.isAgg28 Try.sizeOf28⟩ ⟨_, rfl, gw88.loadA (vs := [.bool false, (.slice none 0 0), (.slice none 0 0)]) (look_lit rfl) Try.isAgg44 Try.sizeOf44⟩ rfl ?_)
   rw [rRest_no (fun hh => by first | exact bcl hh.1 h83 | exact bcl hh.2.1 h88 | exact bcl hh.2.2 h88x1)]
   have q100 := Chg.step (l := 0) (h := 0) (Chg.zero (l := 0) (h := 0) ((((cb2.t cb4).t cb6).t c17).t cb18)) cw20 (by omega)
   have q101 := Chg.step (l := 0) (h := 0) q100 (c41.t cb42) (by omega)
   have q102 := Chg.step (l := 0) (h := 0) q101 cw44 (by omega)
   have q103 := Chg.step (l := 0) (h := 0) q102 (c68.t cb69) (by omega)
   have q104 := Chg.step (l := 0) (h := 0) q103 cw71 (by omega)
   have q105 := Chg.step (l := 0) (h := 0) q104 cw77 (by omega)
   have q106 := Chg.step (l := 0) (h := 0) q105 cw88 (by omega)
   exact ⟨_, _, _, w.heap.size, w.heap.size, w.heap.size, w.heap.size, w.heap.size, w.heap.size, rfl, Own.nil _ _ _ _ _, Own.nil _ _ _ _ _, Own.nil _ _ _ _ _, by omega, ⟨by simp, by simp, by simp⟩, q106⟩
  ·
   refine sx_guardT rfl rfl rfl ?_
   refine sm rfl rfl rfl rfl ?_
   refine sx_guardT rfl rfl rfl ?_
   refine sx_pure rfl rfl rfl (px_not rfl) ?_
   refine sx_pure rfl rfl rfl (px_pick rfl rfl) ?_
   refine wl_nil (q_n (k75 _ _ ?_))
   refine sx_condB rfl (fun h88x1 => ?_) (fun h88x1 => ?_)
   ·
    refine sx_seq fun K107 k107 => sx_region ?_
    refine sx_pure rfl rfl rfl (px_build rfl (xbld28x  _)) ?_
    refine sx_pure rfl rfl rfl (px_build rfl (xbld44x  _)) ?_
    have f109 := fb4.ext cb6
    have f110 := f109.ext c17
    have f111 := f110.ext cb18
    have f112 := f111.chg cw20 (by omega)
    have f113 := f112.ext c41
    have f114 := f113.ext cb42
    have f115 := f114.chg cw44 (by omega)
    have f116 := f115.ext c68
    have f117 := f116.ext cb69
    have f118 := f117.chg cw71 (by omega)
    refine sx_store (vs := [.bool false, (.slice none 0 0)]) rfl rfl f118 rfl Try.sizeOf28 (Nat.le_of_ble_eq_true rfl) (one_cons rfl (one_cons rfl one_nil)) (fun w108 sw108 fw108 cw108 => ?_)
    have zw108 := cw108.size
    have gw108 : Blk w108 b4 [.bool false, (.slice none 0 0)] 28 := fw108
    have f120 := fb6.ext c17
    have f121 := f120.ext cb18
    have f122 := f121.chg cw20 (by omega)
    have f123 := f122.ext c41
    have f124 := f123.ext cb42
    have f125 := f124.chg cw44 (by omega)
    have f126 := f125.ext c68
    have f127 := f126.ext cb69
    have f128 := f127.chg cw71 (by omega)
    have f129 := f128.chg cw108 (by omega)
    refine sx_store (vs := [.bool false, (.slice none 0 0), (.slice none 0 0)]) rfl rfl f129 rfl Try.sizeOf44 (Nat.le_of_ble_eq_true rfl) (one_cons rfl (one_cons rfl (one_cons rfl one_nil))) (fun w119 sw119 fw119 cw119 => ?_)
    have zw119 := cw119.size
    have gw119 : Blk w119 b6 [.bool false, (.slice none 0 0), (.slice none 0 0)] 44 := fw119
    refine sa rfl rfl rfl rfl ?_
    refine wl_nil (q_n (k107 _ _ ?_))
    refine sx_sub (Sub.cons (t := 4) rfl (.cons (t := 5) rfl (.cons (t := 6) rfl (.cons (t := 7) rfl (.cons (t := 11) rfl (.nil)))))) ?_
    refine sx_retc ?_
    have f130 := gw108.chg cw119 (by omega)
    refine q_r (sx_ret3 Try.results24 ⟨_, rfl, f130.loadA (vs := [.bool false, (.slice none 0 0)]) (look_lit rfl) Try.isAgg28 Try.sizeOf28⟩ ⟨_, rfl, gw119.loadA (vs := [.bool false, (.slice none 0 0), (.slice none 0 0)]) (look_lit rfl) Try.isAgg44 Try.sizeOf44⟩ rfl ?_)
    rw [rRest_no (fun hh => by first | exact bcl hh.1 h83 | exact bcl hh.2.1 h88 | exact bcl hh.2.2 h88x1)]
    have q131 := Chg.step (l := 0) (h := 0) (Chg.zero (l := 0) (h := 0) ((((cb2.t cb4).t cb6).t c17).t cb18)) cw20 (by omega)
    have q132 := Chg.step (l := 0) (h := 0) q131 (c41.t cb42) (by omega)
    have q133 := Chg.step (l := 0) (h := 0) q132 cw44 (by omega)
    have q134 := Chg.step (l := 0) (h := 0) q133 (c68.t cb69) (by omega)
    have q135 := Chg.step (l := 0) (h := 0) q134 cw71 (by omega)
    have q136 := Chg.step (l := 0) (h := 0) q135 cw108 (by omega)
    have q137 := Chg.step (l := 0) (h := 0) q136 cw119 (by omega)
    exact ⟨_, _, _, w.heap.size, w.heap.size, w.heap.size, w.heap.size, w.heap.size, w.heap.size, rfl, Own.nil _ _ _ _ _, Own.nil _ _ _ _ _, Own.nil _ _ _ _ _, by omega, ⟨by simp, by simp, by simp⟩, q137⟩
   ·
    refine sx_skip ?_
    refine q_n (k74 _ _ ?_)
    refine sx_seq fun K138 k138 => ?_
    have f139 := f53.ext c68
    have f140 := f139.ext cb69
    have f141 := f140.chg cw71 (by omega)
    have f142 := gw20.ext c41
    have f143 := f142.ext cb42
    have f144 := f143.chg cw44 (by omega)
    have f145 := f144.ext c68
    have f146 := f145.ext cb69
    have f147 := f146.chg cw71 (by omega)
    have f148 := gw44.ext c68
    have f149 := f148.ext cb69
    have f150 := f149.chg cw71 (by omega)
    have f151 := f59.ext c68
    have f152 := f151.ext cb69
    have f153 := f152.chg cw71 (by omega)
    have f154 := f65.ext c68
    have f155 := f154.ext cb69
    have f156 := f155.chg cw71 (by omega)
    have f157 := f40.ext c41
    have f158 := f157.ext cb42
    have f159 := f158.chg cw44 (by omega)
    have f160 := f159.ext c68
    have f161 := f160.ext cb69
    have f162 := f161.chg cw71 (by omega)
    have f163 := f66.ext c68
    have f164 := f163.ext cb69
    have f165 := f164.chg cw71 (by omega)
    have f166 := f67.ext c68
    have f167 := f166.ext cb69
    have f168 := f167.chg cw71 (by omega)
    have f169 := f73.chg cw71 (by omega)
    have f170 := f72.chg cw71 (by omega)
    refine dx_region (fun w' => Chg b4 (b6 + 1) w71 w') (by kernel_rfl) (Chg.zero (Chg.drew _)) ?_
    have d171 := Chg.drew w71
    have s171 : Chg b4 (b6 + 1) w71 (World.drew w71) := Chg.zero (Chg.drew _)
    have y171 : (World.drew w71).heap.size = w71.heap.size := rfl
    generalize World.drew w71 = w171 at *
    have zw171 := d171.size
    refine dx_take 0 rfl rfl rfl rfl (by kernel_rfl) (by kernel_rfl) (by kernel_rfl) s171 (fun _ hS => px_load rfl ((f147.chg hS (by omega)).loadA (vs := [.bool ((rRound n1 z1 y1 m).1), s17]) (look_lit rfl) Try.isAgg28 Try.sizeOf28)) ?_
    refine dx_take 1 rfl rfl rfl rfl (by kernel_rfl) (by kernel_rfl) (by kernel_rfl) s171 (fun _ hS => px_load rfl ((gw71.chg hS (by omega)).loadA (vs := [.bool ((rSub n1 z1 y1 ((rInt ((rRound n1 z1 y1 m).1) ((rRound n1 z1 y1 m).2.1)).1) ((rInt ((rRound n1 z1 y1 m).1) ((rRound n1 z1 y1 m).2.1)).2.1) ((rInt ((rRound n1 z1 y1 m).1) ((rRound n1 z1 y1 m).2.1)).2.2.1)).1), s68, t68]) (look_lit rfl) Try.isAgg44 Try.sizeOf44)) ?_
    refine dx_eff 2 rfl (by kernel_rfl) ?_
    have f173 := fb4.ext cb6
    have f174 := f173.ext c17
    have f175 := f174.ext cb18
    have f176 := f175.chg cw20 (by omega)
    have f177 := f176.ext c41
    have f178 := f177.ext cb42
    have f179 := f178.chg cw44 (by omega)
    have f180 := f179.ext c68
    have f181 := f180.ext cb69
    have f182 := f181.chg cw71 (by omega)
    have f183 := f182.ext d171
    have f184 := f162.ext d171
    refine sx_store (vs := [.bool ((rRound n1 z1 y1 m).1), s17]) rfl rfl f183 rfl Try.sizeOf28 (Nat.le_of_ble_eq_true rfl) (one_cons rfl (one_cons f184.one one_nil)) (fun w172 sw172 fw172 cw172 => ?_)
    have zw172 := cw172.size
    have gw172 : Blk w172 b4 [.bool ((rRound n1 z1 y1 m).1), s17] 28 := fw172
    have q186 := Chg.step (l := b4) (h := (b6 + 1)) (Chg.zero (l := b4) (h := (b6 + 1)) d171) cw172 (by omega)
    have s185 : Chg b4 (b6 + 1) w71 w172 := q186
    refine wl_nil ?_
    refine dx_next s185 ?_
    refine dx_eff 3 rfl (by kernel_rfl) ?_
    have f188 := fb6.ext c17
    have f189 := f188.ext cb18
    have f190 := f189.chg cw20 (by omega)
    have f191 := f190.ext c41
    have f192 := f191.ext cb42
    have f193 := f192.chg cw44 (by omega)
    have f194 := f193.ext c68
    have f195 := f194.ext cb69
    have f196 := f195.chg cw71 (by omega)
    have f197 := f196.ext d171
    have f198 := f197.chg cw172 (by omega)
    have f199 := f170.ext d171
    have f200 := f199.chg cw172 (by omega)
    have f201 := f169.ext d171
    have f202 := f201.chg cw172 (by omega)
    refine sx_store (vs := [.bool ((rSub n1 z1 y1 ((rInt ((rRound n1 z1 y1 m).1) ((rRound n1 z1 y1 m).2.1)).1) ((rInt ((rRound n1 z1 y1 m).1) ((rRound n1 z1 y1 m).2.1)).2.1) ((rInt ((rRound n1 z1 y1 m).1) ((rRound n1 z1 y1 m).2.1)).2.2.1)).1), s68, t68]) rfl rfl f198 rfl Try.sizeOf44 (Nat.le_of_ble_eq_true rfl) (one_cons rfl (one_cons f202.one (one_cons f200.one one_nil))) (fun w187 sw187 fw187 cw187 => ?_)
    have zw187 := cw187.size
    have gw187 : Blk w187 b6 [.bool ((rSub n1 z1 y1 ((rInt ((rRound n1 z1 y1 m).1) ((rRound n1 z1 y1 m).2.1)).1) ((rInt ((rRound n1 z1 y1 m).1) ((rRound n1 z1 y1 m).2.1)).2.1) ((rInt ((rRound n1 z1 y1 m).1) ((rRound n1 z1 y1 m).2.1)).2.2.1)).1), s68, t68] 44 := fw187
    have q204 := Chg.step (l := b4) (h := (b6 + 1)) (Chg.zero (l := b4) (h := (b6 + 1)) d171) cw172 (by omega)
    have q205 := Chg.step (l := b4) (h := (b6 + 1)) q204 cw187 (by omega)
    have s203 : Chg b4 (b6 + 1) w71 w187 := q205
    refine wl_nil ?_
    refine dx_next s203 ?_
    refine dx_take 4 rfl rfl rfl rfl (by kernel_rfl) (by kernel_rfl) (by kernel_rfl) s203 (fun _ hS => px_assign rfl) ?_
    refine dx_done (by kernel_rfl) ?_
    refine q_n (k138 _ _ ?_)
    refine sx_sub (Sub.cons (t := 4) rfl (.cons (t := 5) rfl (.cons (t := 6) rfl (.nil)))) ?_
    refine sx_retc ?_
    have f206 := gw172.chg cw187 (by omega)
    refine sx_ret3 Try.results24 ⟨_, rfl, f206.loadA (vs := [.bool ((rRound n1 z1 y1 m).1), s17]) (look_lit rfl) Try.isAgg28 Try.sizeOf28⟩ ⟨_, rfl, gw187.loadA (vs := [.bool ((rSub n1 z1 y1 ((rInt ((rRound n1 z1 y1 m).1) ((rRound n1 z1 y1 m).2.1)).1) ((rInt ((rRound n1 z1 y1 m).1) ((rRound n1 z1 y1 m).2.1)).2.1) ((rInt ((rRound n1 z1 y1 m).1) ((rRound n1 z1 y1 m).2.1)).2.2.1)).1), s68, t68]) (look_lit rfl) Try.isAgg44 Try.sizeOf44⟩ rfl ?_
    have hrl := rRest_len (n := n1) (z := z1) (y := y1) (m := m)
    rw [rRest_ok (bnot_f h83) (bnot_f h88) (bnot_f h88x1)] at hrl ⊢
    have q207 := Chg.step (l := 0) (h := 0) (Chg.zero (l := 0) (h := 0) ((((cb2.t cb4).t cb6).t c17).t cb18)) cw20 (by omega)
    have q208 := Chg.step (l := 0) (h := 0) q207 (c41.t cb42) (by omega)
    have q209 := Chg.step (l := 0) (h := 0) q208 cw44 (by omega)
    have q210 := Chg.step (l := 0) (h := 0) q209 (c68.t cb69) (by omega)
    have q211 := Chg.step (l := 0) (h := 0) q210 cw71 (by omega)
    have q212 := Chg.step (l := 0) (h := 0) q211 d171 (by omega)
    have q213 := Chg.step (l := 0) (h := 0) q212 cw172 (by omega)
    have q214 := Chg.step (l := 0) (h := 0) q213 cw187 (by omega)
    have f215 := f184.chg cw172 (by omega)
    have f216 := f215.chg cw187 (by omega)
    have f217 := f202.chg cw187 (by omega)
    have f218 := f200.chg cw187 (by omega)
    exact ⟨_, _, _, _, _, _, _, _, _, rfl, f216, f217, f218, by omega, hrl, q214⟩

theorem c_heldRat {w : World} {n1 : Bool} {v1 : Value} {lv1 uv1 : Nat} {z1 : List Int} {d1 : Value} {ld1 ud1 : Nat} {y1 : List Int} {n : Int} (hv1 : Sl w lv1 uv1 v1 (z1)) (hd1 : Sl w ld1 ud1 d1 (y1)) (h63 : z1.length ≤ 1048576 ∧ y1.length ≤ 1048576) (hn : 0 ≤ n ∧ n ≤ 4000000000000000000) (hz : z1 = mk n z1.length ∧ y1 = mk (n + ↑z1.length) y1.length) :
  Ret Try.prog 28 [.agg #[.bool n1, v1, d1], .int .i64 n] w fun v w' => v = .int .i64 (n + ↑(z1).length + ↑(y1).length) ∧ Chg 0 0 w w' := by
 have hv10 := hv1.fit
 have hd10 := hd1.fit
 have hz1 := hz.1
 have hz2 := hz.2
 refine sx_enter Try.func28 rfl Try.ntmps28 (Nat.le_of_ble_eq_true rfl) ?_
 refine sx_seq fun K1 k1 => sx_region ?_
 refine sx_box [.bool n1, v1, d1] rfl rfl rfl (fun b2 w3 eb2 sb2 fb2 cb2 => ?_)
 have zw3 := cb2.size
 refine sa rfl rfl rfl rfl ?_
 refine wl_nil (q_n (k1 _ _ ?_))
 refine sx_seq fun K4 k4 => sx_region ?_
 refine sx_pure rfl rfl rfl (px_field rfl xfld44x0) ?_
 refine sx_pure rfl rfl rfl (px_load rfl (fb2.loadA (vs := [.bool n1, v1]) (look_lit rfl) Try.isAgg28 Try.sizeOf28)) ?_
 refine sm rfl rfl rfl rfl ?_
 have f5 := hv10.ext cb2
 refine sx_call rfl rfl Try.call27 (c_heldSigned f5 (by first | omega | (simp only [mk_length]; omega)) (by omega) (by first | assumption | simp [mk_length])) (fun v6 w6 p6 => ?_)
 obtain ⟨rfl, c6⟩ := p6
 have zw6 := c6.size
 refine sa rfl rfl rfl rfl ?_
 refine wl_nil (q_n (k4 _ _ ?_))
 refine sx_seq fun K7 k7 => ?_
 refine sx_seq fun K8 k8 => sx_region ?_
 refine sm rfl rfl rfl rfl ?_
 refine sx_pure rfl rfl rfl (px_lt rfl rfl) ?_
 refine wl_nil (q_n (k8 _ _ ?_))
 have h379 : ¬ ((n + ↑(z1).length : Int) < 0) := by omega
 refine sx_condPF rfl h379 ?_
 refine sx_skip ?_
 refine q_n (k7 _ _ ?_)
 refine sx_seq fun K9 k9 => sx_region ?_
 refine sx_pure rfl rfl rfl (px_field rfl xfld44x1) ?_
 have f10 := fb2.ext c6
 refine sx_pure rfl rfl rfl (px_load rfl (f10.load1 rfl Try.isAgg22)) ?_
 refine sm rfl rfl rfl rfl ?_
 have f11 := hd10.ext cb2
 have f12 := f11.ext c6
 refine sx_call rfl rfl Try.call68 (c_heldIntS f12 (by omega) (by omega) (by first | assumption | simp [mk_length])) (fun v13 w13 p13 => ?_)
 obtain ⟨rfl, c13⟩ := p13
 have zw13 := c13.size
 refine sa rfl rfl rfl rfl ?_
 refine wl_nil (q_n (k9 _ _ ?_))
 refine sx_seq fun K14 k14 => ?_
 refine sx_seq fun K15 k15 => sx_region ?_
 refine sm rfl rfl rfl rfl ?_
 refine sx_pure rfl rfl rfl (px_lt rfl rfl) ?_
 refine wl_nil (q_n (k15 _ _ ?_))
 refine sx_sub (Sub.cons (t := 1) rfl (.cons (t := 4) rfl (.cons (t := 16) rfl (.nil)))) ?_
 have h383 : ¬ (((n + ↑(z1).length) + ↑(y1).length : Int) < 0) := by omega
 refine sx_condPF rfl h383 ?_
 refine sx_skip ?_
 refine q_n (k14 _ _ ?_)
 refine sx_seq fun K16 k16 => sx_region ?_
 refine sm rfl rfl rfl rfl ?_
 refine sa rfl rfl rfl rfl ?_
 refine wl_nil (q_n (k16 _ _ ?_))
 refine sx_retc ?_
 refine sx_ret1 Try.results28 rfl ?_
 exact ⟨rfl, ((cb2.t c6).t c13)⟩

theorem c_sDecRat {w : World} {n1 : Bool} {v1 : Value} {lv1 uv1 : Nat} {z1 : List Int} {p1 : Int} (hv1 : Sl w lv1 uv1 v1 (z1)) (h63 : z1.length ≤ 4611686018427387904) :
  Ret Try.prog 70 [.agg #[.bool n1, v1, .int .i64 p1]] w fun v w' => ∃ s t ls us lt ut, v = .agg #[.bool ((dRat n1 z1 p1).1), s, t] ∧ OwnI w' (ls) (us) s intT ((dRat n1 z1 p1).2.1) ∧ OwnI w' (lt) (ut) t intT ((dRat n1 z1 p1).2.2.1) ∧ (w.heap.size ≤ ls ∧ us ≤ w'.heap.size ∧ w.heap.size ≤ lt ∧ ut ≤ w'.heap.size ∧ (us ≤ lt ∨ ut ≤ ls)) ∧ ((dRat n1 z1 p1).2.1.length ≤ 18 ∧ (dRat n1 z1 p1).2.2.1.length ≤ 18) ∧ Chg 0 0 w w' := by
 have hv10 := hv1.fit
 refine sx_enter Try.func70 rfl Try.ntmps70 (Nat.le_of_ble_eq_true rfl) ?_
 refine sx_seq fun K1 k1 => sx_region ?_
 refine sx_box [.bool n1, v1, .int .i64 p1] rfl rfl rfl (fun b2 w3 eb2 sb2 fb2 cb2 => ?_)
 have zw3 := cb2.size
 refine sx_alloc [.bool false, (.slice none 0 0), (.slice none 0 0)] rfl Try.zeroValue44 rfl (fun b4 w5 eb4 sb4 fb4 cb4 => ?_)
 have zw5 := cb4.size
 refine wl_nil (q_n (k1 _ _ ?_))
 refine sx_seq fun K6 k6 => ?_
 refine sx_seq fun K7 k7 => sx_region ?_
 have f8 := fb2.ext cb4
 refine sx_pure rfl rfl rfl (px_load rfl (f8.loadA (vs := [.bool n1, v1, .int .i64 p1]) (look_lit rfl) Try.isAgg30 Try.sizeOf30)) ?_
 have f9 := hv10.ext cb2
 have f10 := f9.ext cb4
 refine sx_call rfl rfl Try.call32 (c_sDecOk f10 (by omega)) (fun v11 w11 p11 => ?_)
 obtain ⟨rfl, c11⟩ := p11
 have zw11 := c11.size
 refine sx_pure rfl rfl rfl (px_notP rfl) ?_
 refine wl_nil (q_n (k7 _ _ ?_))
 refine sx_condP rfl (fun h23 => ?_) (fun h23 => ?_)
 ·
  refine sx_seq fun K12 k12 => sx_region ?_
  refine sx_pure rfl rfl rfl (px_build rfl (xbld44x  _)) ?_
  have f14 := fb4.ext c11
  refine sx_store (vs := [.bool false, (.slice none 0 0), (.slice none 0 0)]) rfl rfl f14 rfl Try.sizeOf44 (Nat.le_of_ble_eq_true rfl) (one_cons rfl (one_cons rfl (one_cons rfl one_nil))) (fun w13 sw13 fw13 cw13 => ?_)
  have zw13 := cw13.size
  have gw13 : Blk w13 b4 [.bool false, (.slice none 0 0), (.slice none 0 0)] 44 := fw13
  refine wl_nil (q_n (k12 _ _ ?_))
  refine sx_retc ?_
  refine q_r (sx_ret1 Try.results70 ⟨_, rfl, gw13.loadA (vs := [.bool false, (.slice none 0 0), (.slice none 0 0)]) (look_lit rfl) Try.isAgg44 Try.sizeOf44⟩ ?_)
  rw [dRat_no h23]
  have q15 := Chg.step (l := 0) (h := 0) (Chg.zero (l := 0) (h := 0) ((cb2.t cb4).t c11)) cw13 (by omega)
  exact ⟨_, _, w.heap.size, w.heap.size, w.heap.size, w.heap.size, rfl, Own.nil _ _ _ _ _, Own.nil _ _ _ _ _, by omega, ⟨by simp [noR], by simp [noR]⟩, q15⟩
 ·
  have hD := Decidable.not_not.1 h23
  obtain ⟨x1, rfl, rfl, hx1⟩ := hD.int
  have ltn := ten_len' (k := p1) (by omega)
  refine sx_skip ?_
  refine q_n (k6 _ _ ?_)
  refine sx_seq fun K16 k16 => ?_
  refine sx_cut k16 (fun fr w' => ∃ (gb17x0 : Nat) (gs17x1 : Value) (gl17x1 : Nat) (gu17x1 : Nat) (gs17x2 : Value) (gl17x2 : Nat) (gu17x2 : Nat), fr = [(2, .pointer (some ⟨b4, 0, none⟩)), (3, .pointer (some ⟨gb17x0, 0, none⟩))] ∧ Chg 0 0 w11 w' ∧ (Blk w' gb17x0 [.bool ((rMake (ng x1) (dg x1.natAbs) (ng (tenI p1)) (dg (tenI p1).natAbs)).1), gs17x1, gs17x2] 44) ∧ (Own w' gl17x1 gu17x1 gs17x1 intT (((rMake (ng x1) (dg x1.natAbs) (ng (tenI p1)) (dg (tenI p1).natAbs)).2.1).length) 1 (((rMake (ng x1) (dg x1.natAbs) (ng (tenI p1)) (dg (tenI p1).natAbs)).2.1).map (Value.int .i64))) ∧ (Own w' gl17x2 gu17x2 gs17x2 intT (((rMake (ng x1) (dg x1.natAbs) (ng (tenI p1)) (dg (tenI p1).natAbs)).2.2.1).length) 1 (((rMake (ng x1) (dg x1.natAbs) (ng (tenI p1)) (dg (tenI p1).natAbs)).2.2.1).map (Value.int .i64))) ∧ (w11.heap.size ≤ gb17x0 ∧ gb17x0 + 1 ≤ w'.heap.size) ∧ (w11.heap.size ≤ gl17x1 ∧ gu17x1 ≤ w'.heap.size) ∧ (w11.heap.size ≤ gl17x2 ∧ gu17x2 ≤ w'.heap.size) ∧ (gu17x1 ≤ gb17x0 ∨ gb17x0 + 1 ≤ gl17x1) ∧ (gu17x2 ≤ gb17x0 ∨ gb17x0 + 1 ≤ gl17x2) ∧ (gu17x2 ≤ gl17x1 ∨ gu17x1 ≤ gl17x2)) (fun kc17 => ?_) ?_
  ·
   have f18 := f8.ext c11
   have f19 := fb4.ext c11
   have f20 := f10.ext c11
   refine dx_region (fun w' => Chg 0 0 w11 w') (by kernel_rfl) (Chg.zero (Chg.drew _)) ?_
   have d21 := Chg.drew w11
   have s21 : Chg 0 0 w11 (World.drew w11) := Chg.zero (Chg.drew _)
   have y21 : (World.drew w11).heap.size = w11.heap.size := rfl
   generalize World.drew w11 = w21 at *
   have zw21 := d21.size
   refine dx_take 0 rfl rfl rfl rfl (by kernel_rfl) (by kernel_rfl) (by kernel_rfl) s21 (fun _ hS => px_field rfl xfld30x0) ?_
   refine dx_take 1 rfl rfl rfl rfl (by kernel_rfl) (by kernel_rfl) (by kernel_rfl) s21 (fun _ hS => px_load rfl ((f18.chg hS (by omega)).loadA (vs := [.bool (ng x1), v1]) (look_lit rfl) Try.isAgg28 Try.sizeOf28)) ?_
   refine dx_take 2 rfl rfl rfl rfl (by kernel_rfl) (by kernel_rfl) (by kernel_rfl) s21 (fun _ hS => px_field rfl xfld30x1) ?_
   refine dx_take 3 rfl rfl rfl rfl (by kernel_rfl) (by kernel_rfl) (by kernel_rfl) s21 (fun _ hS => px_load rfl ((f18.chg hS (by omega)).load1 rfl Try.isAgg3)) ?_
   refine dx_eff2 4 9 rfl rfl (by kernel_rfl) ?_ ?_
   ·
    refine sx_call rfl rfl Try.call36 (c_l07Ten (by omega)) (fun v22 w22 p22 => ?_)
    obtain ⟨s22, rfl, os_22, c22⟩ := p22
    have zw22 := c22.size
    have s23 : Chg 0 0 w11 w22 := (d21.t c22)
    refine wl_nil ?_
    refine dx_next s23 ?_
    refine dx_eff2 5 9 rfl rfl (by kernel_rfl) ?_ ?_
    ·
     have f24 := f20.ext d21
     have f25 := f24.ext c22
     refine sx_call rfl rfl Try.call100 (c_sRatMake f25 os_22.sv (by have h9 := len_ten (k := p1) (by omega); omega)) (fun v26 w26 p26 => ?_)
     obtain ⟨s26, t26, ls26, us26, lt26, ut26, rfl, os_26, ot_26, hd26, hl26, c26⟩ := p26
     have zw26 := c26.size
     have s27 : Chg 0 0 w11 w26 := ((d21.t c22).t c26)
     refine wl_nil ?_
     refine dx_next s27 ?_
     refine dx_take 6 rfl rfl rfl rfl (by kernel_rfl) (by kernel_rfl) (by kernel_rfl) s27 (fun _ hS => px_move rfl) ?_
     refine dx_take 7 rfl rfl rfl rfl (by kernel_rfl) (by kernel_rfl) (by kernel_rfl) s27 (fun _ hS => px_extract (vs := [.agg #[.bool ((rMake (ng x1) (dg x1.natAbs) (ng (tenI p1)) (dg (tenI p1).natAbs)).1), s26, t26], .bool ((rMake (ng x1) (dg x1.natAbs) (ng (tenI p1)) (dg (tenI p1).natAbs)).2.2.2)]) rfl rfl) ?_
     refine dx_take 8 rfl rfl rfl rfl (by kernel_rfl) (by kernel_rfl) (by kernel_rfl) s27 (fun _ hS => px_extract (vs := [.agg #[.bool ((rMake (ng x1) (dg x1.natAbs) (ng (tenI p1)) (dg (tenI p1).natAbs)).1), s26, t26], .bool ((rMake (ng x1) (dg x1.natAbs) (ng (tenI p1)) (dg (tenI p1).natAbs)).2.2.2)]) rfl rfl) ?_
     refine dx_eff 9 rfl (by kernel_rfl) ?_
     refine sx_alloc [.bool false, (.slice none 0 0), (.slice none 0 0)] rfl Try.zeroValue44 rfl (fun b28 w29 eb28 sb28 fb28 cb28 => ?_)
     have zw29 := cb28.size
     have s30 : Chg 0 0 w11 w29 := (((d21.t c22).t c26).t cb28)
     refine wl_nil ?_
     refine dx_next s30 ?_
     refine dx_eff 10 rfl (by kernel_rfl) ?_
     have f32 := ot_26.ext cb28
     have f33 := os_26.ext cb28
     refine sx_store (vs := [.bool ((rMake (ng x1) (dg x1.natAbs) (ng (tenI p1)) (dg (tenI p1).natAbs)).1), s26, t26]) rfl rfl fb28 rfl Try.sizeOf44 (Nat.le_of_ble_eq_true rfl) (one_cons rfl (one_cons f33.one (one_cons f32.one one_nil))) (fun w31 sw31 fw31 cw31 => ?_)
     have zw31 := cw31.size
     have gw31 : Blk w31 b28 [.bool ((rMake (ng x1) (dg x1.natAbs) (ng (tenI p1)) (dg (tenI p1).natAbs)).1), s26, t26] 44 := fw31
     have q35 := Chg.step (l := 0) (h := 0) (Chg.zero (l := 0) (h := 0) (((d21.t c22).t c26).t cb28)) cw31 (by omega)
     have s34 : Chg 0 0 w11 w31 := q35
     refine wl_nil ?_
     refine dx_next s34 ?_
     refine dx_take 11 rfl rfl rfl rfl (by kernel_rfl) (by kernel_rfl) (by kernel_rfl) s34 (fun _ hS => px_assign rfl) ?_
     refine dx_done (by kernel_rfl) ?_
     have f36 := f33.chg cw31 (by omega)
     have f37 := f32.chg cw31 (by omega)
     have q38 := Chg.step (l := 0) (h := 0) (Chg.zero (l := 0) (h := 0) (((d21.t c22).t c26).t cb28)) cw31 (by omega)
     exact q_n (kw_sub (Sub.cons (t := 2) rfl (.cons (t := 3) rfl (.nil))) (kc17 _ _ ⟨b28, s26, ls26, us26, t26, lt26, ut26, rfl, q38, gw31, f36, f37, by omega, by omega, by omega, by omega, by omega, by omega⟩))
    ·
     refine sx_alloc [.bool false, (.slice none 0 0), (.slice none 0 0)] rfl Try.zeroValue44 rfl (fun b39 w40 eb39 sb39 fb39 cb39 => ?_)
     have zw40 := cb39.size
     have s41 : Chg 0 0 w11 w40 := ((d21.t c22).t cb39)
     refine wl_nil ?_
     refine dx_next s41 ?_
     refine dx_eff 5 rfl (by kernel_rfl) ?_
     have f42 := f20.ext d21
     have f43 := f42.ext c22
     have f44 := f43.ext cb39
     have f45 := os_22.ext cb39
     refine sx_call rfl rfl Try.call100 (c_sRatMake f44 f45.sv (by have h9 := len_ten (k := p1) (by omega); omega)) (fun v46 w46 p46 => ?_)
     obtain ⟨s46, t46, ls46, us46, lt46, ut46, rfl, os_46, ot_46, hd46, hl46, c46⟩ := p46
     have zw46 := c46.size
     have s47 : Chg 0 0 w11 w46 := (((d21.t c22).t cb39).t c46)
     refine wl_nil ?_
     refine dx_next s47 ?_
     refine dx_take 6 rfl rfl rfl rfl (by kernel_rfl) (by kernel_rfl) (by kernel_rfl) s47 (fun _ hS => px_move rfl) ?_
     refine dx_take 7 rfl rfl rfl rfl (by kernel_rfl) (by kernel_rfl) (by kernel_rfl) s47 (fun _ hS => px_extract (vs := [.agg #[.bool ((rMake (ng x1) (dg x1.natAbs) (ng (tenI p1)) (dg (tenI p1).natAbs)).1), s46, t46], .bool ((rMake (ng x1) (dg x1.natAbs) (ng (tenI p1)) (dg (tenI p1).natAbs)).2.2.2)]) rfl rfl) ?_
     refine dx_take 8 rfl rfl rfl rfl (by kernel_rfl) (by kernel_rfl) (by kernel_rfl) s47 (fun _ hS => px_extract (vs := [.agg #[.bool ((rMake (ng x1) (dg x1.natAbs) (ng (tenI p1)) (dg (tenI p1).natAbs)).1), s46, t46], .bool ((rMake (ng x1) (dg x1.natAbs) (ng (tenI p1)) (dg (tenI p1).natAbs)).2.2.2)]) rfl rfl) ?_
     refine dx_eff 10 rfl (by kernel_rfl) ?_
     have f49 := fb39.ext c46
     refine sx_store (vs := [.bool ((rMake (ng x1) (dg x1.natAbs) (ng (tenI p1)) (dg (tenI p1).natAbs)).1), s46, t46]) rfl rfl f49 rfl Try.sizeOf44 (Nat.le_of_ble_eq_true rfl) (one_cons rfl (one_cons os_46.one (one_cons ot_46.one one_nil))) (fun w48 sw48 fw48 cw48 => ?_)
     have zw48 := cw48.size
     have gw48 : Blk w48 b39 [.bool ((rMake (ng x1) (dg x1.natAbs) (ng (tenI p1)) (dg (tenI p1).natAbs)).1), s46, t46] 44 := fw48
     have q51 := Chg.step (l := 0) (h := 0) (Chg.zero (l := 0) (h := 0) (((d21.t c22).t cb39).t c46)) cw48 (by omega)
     have s50 : Chg 0 0 w11 w48 := q51
     refine wl_nil ?_
     refine dx_next s50 ?_
     refine dx_take 11 rfl rfl rfl rfl (by kernel_rfl) (by kernel_rfl) (by kernel_rfl) s50 (fun _ hS => px_assign rfl) ?_
     refine dx_done (by kernel_rfl) ?_
     have f52 := os_46.chg cw48 (by omega)
     have f53 := ot_46.chg cw48 (by omega)
     have q54 := Chg.step (l := 0) (h := 0) (Chg.zero (l := 0) (h := 0) (((d21.t c22).t cb39).t c46)) cw48 (by omega)
     exact q_n (kw_sub (Sub.cons (t := 2) rfl (.cons (t := 3) rfl (.nil))) (kc17 _ _ ⟨b39, s46, ls46, us46, t46, lt46, ut46, rfl, q54, gw48, f52, f53, by omega, by omega, by omega, by omega, by omega, by omega⟩))
   ·
    refine sx_alloc [.bool false, (.slice none 0 0), (.slice none 0 0)] rfl Try.zeroValue44 rfl (fun b55 w56 eb55 sb55 fb55 cb55 => ?_)
    have zw56 := cb55.size
    have s57 : Chg 0 0 w11 w56 := (d21.t cb55)
    refine wl_nil ?_
    refine dx_next s57 ?_
    refine dx_eff 4 rfl (by kernel_rfl) ?_
    refine sx_call rfl rfl Try.call36 (c_l07Ten (by omega)) (fun v58 w58 p58 => ?_)
    obtain ⟨s58, rfl, os_58, c58⟩ := p58
    have zw58 := c58.size
    have s59 : Chg 0 0 w11 w58 := ((d21.t cb55).t c58)
    refine wl_nil ?_
    refine dx_next s59 ?_
    refine dx_eff 5 rfl (by kernel_rfl) ?_
    have f60 := f20.ext d21
    have f61 := f60.ext cb55
    have f62 := f61.ext c58
    refine sx_call rfl rfl Try.call100 (c_sRatMake f62 os_58.sv (by have h9 := len_ten (k := p1) (by omega); omega)) (fun v63 w63 p63 => ?_)
    obtain ⟨s63, t63, ls63, us63, lt63, ut63, rfl, os_63, ot_63, hd63, hl63, c63⟩ := p63
    have zw63 := c63.size
    have s64 : Chg 0 0 w11 w63 := (((d21.t cb55).t c58).t c63)
    refine wl_nil ?_
    refine dx_next s64 ?_
    refine dx_take 6 rfl rfl rfl rfl (by kernel_rfl) (by kernel_rfl) (by kernel_rfl) s64 (fun _ hS => px_move rfl) ?_
    refine dx_take 7 rfl rfl rfl rfl (by kernel_rfl) (by kernel_rfl) (by kernel_rfl) s64 (fun _ hS => px_extract (vs := [.agg #[.bool ((rMake (ng x1) (dg x1.natAbs) (ng (tenI p1)) (dg (tenI p1).natAbs)).1), s63, t63], .bool ((rMake (ng x1) (dg x1.natAbs) (ng (tenI p1)) (dg (tenI p1).natAbs)).2.2.2)]) rfl rfl) ?_
    refine dx_take 8 rfl rfl rfl rfl (by kernel_rfl) (by kernel_rfl) (by kernel_rfl) s64 (fun _ hS => px_extract (vs := [.agg #[.bool ((rMake (ng x1) (dg x1.natAbs) (ng (tenI p1)) (dg (tenI p1).natAbs)).1), s63, t63], .bool ((rMake (ng x1) (dg x1.natAbs) (ng (tenI p1)) (dg (tenI p1).natAbs)).2.2.2)]) rfl rfl) ?_
    refine dx_eff 10 rfl (by kernel_rfl) ?_
    have f66 := fb55.ext c58
    have f67 := f66.ext c63
    refine sx_store (vs := [.bool ((rMake (ng x1) (dg x1.natAbs) (ng (tenI p1)) (dg (tenI p1).natAbs)).1), s63, t63]) rfl rfl f67 rfl Try.sizeOf44 (Nat.le_of_ble_eq_true rfl) (one_cons rfl (one_cons os_63.one (one_cons ot_63.one one_nil))) (fun w65 sw65 fw65 cw65 => ?_)
    have zw65 := cw65.size
    have gw65 : Blk w65 b55 [.bool ((rMake (ng x1) (dg x1.natAbs) (ng (tenI p1)) (dg (tenI p1).natAbs)).1), s63, t63] 44 := fw65
    have q69 := Chg.step (l := 0) (h := 0) (Chg.zero (l := 0) (h := 0) (((d21.t cb55).t c58).t c63)) cw65 (by omega)
    have s68 : Chg 0 0 w11 w65 := q69
    refine wl_nil ?_
    refine dx_next s68 ?_
    refine dx_take 11 rfl rfl rfl rfl (by kernel_rfl) (by kernel_rfl) (by kernel_rfl) s68 (fun _ hS => px_assign rfl) ?_
    refine dx_done (by kernel_rfl) ?_
    have f70 := os_63.chg cw65 (by omega)
    have f71 := ot_63.chg cw65 (by omega)
    have q72 := Chg.step (l := 0) (h := 0) (Chg.zero (l := 0) (h := 0) (((d21.t cb55).t c58).t c63)) cw65 (by omega)
    exact q_n (kw_sub (Sub.cons (t := 2) rfl (.cons (t := 3) rfl (.nil))) (kc17 _ _ ⟨b55, s63, ls63, us63, t63, lt63, ut63, rfl, q72, gw65, f70, f71, by omega, by omega, by omega, by omega, by omega, by omega⟩))
  ·
   rintro fr w'17 ⟨gb17x0, gs17x1, gl17x1, gu17x1, gs17x2, gl17x2, gu17x2, rfl, cw'17, xgb17x0, xgs17x1, xgs17x2, ygb17x0, ygl17x1, ygl17x2, dgl17x1xgb17x0, dgl17x2xgb17x0, dgl17x2xgl17x1⟩
   have zw'17 := cw'17.size
   refine sx_seq fun K73 k73 => sx_region ?_
   refine sx_pure rfl rfl rfl (px_load rfl (xgb17x0.loadA (vs := [.bool ((rMake (ng x1) (dg x1.natAbs) (ng (tenI p1)) (dg (tenI p1).natAbs)).1), gs17x1, gs17x2]) (look_lit rfl) Try.isAgg44 Try.sizeOf44)) ?_
   have f75 := fb4.ext c11
   have f76 := f75.ext cw'17
   refine sx_store (vs := [.bool ((rMake (ng x1) (dg x1.natAbs) (ng (tenI p1)) (dg (tenI p1).natAbs)).1), gs17x1, gs17x2]) rfl rfl f76 rfl Try.sizeOf44 (Nat.le_of_ble_eq_true rfl) (one_cons rfl (one_cons xgs17x1.one (one_cons xgs17x2.one one_nil))) (fun w74 sw74 fw74 cw74 => ?_)
   have zw74 := cw74.size
   have gw74 : Blk w74 b4 [.bool ((rMake (ng x1) (dg x1.natAbs) (ng (tenI p1)) (dg (tenI p1).natAbs)).1), gs17x1, gs17x2] 44 := fw74
   refine wl_nil (q_n (k73 _ _ ?_))
   refine sx_retc ?_
   refine sx_ret1 Try.results70 ⟨_, rfl, gw74.loadA (vs := [.bool ((rMake (ng x1) (dg x1.natAbs) (ng (tenI p1)) (dg (tenI p1).natAbs)).1), gs17x1, gs17x2]) (look_lit rfl) Try.isAgg44 Try.sizeOf44⟩ ?_
   have hrl := dRat_len (n := ng x1) (z := dg x1.natAbs) (p := p1)
   rw [← dRat_make hD] at hrl ⊢
   have q77 := Chg.step (l := 0) (h := 0) (Chg.zero (l := 0) (h := 0) (((cb2.t cb4).t c11).t cw'17)) cw74 (by omega)
   have f78 := xgs17x1.chg cw74 (by omega)
   have f79 := xgs17x2.chg cw74 (by omega)
   exact ⟨_, _, _, _, _, _, rfl, f78, f79, by omega, hrl, q77⟩

theorem c_sRatDiv {w : World} {n1 : Bool} {v1 : Value} {lv1 uv1 : Nat} {z1 : List Int} {d1 : Value} {ld1 ud1 : Nat} {y1 : List Int} {n2 : Bool} {v2 : Value} {lv2 uv2 : Nat} {z2 : List Int} {d2 : Value} {ld2 ud2 : Nat} {y2 : List Int} (hv1 : Sl w lv1 uv1 v1 (z1)) (hd1 : Sl w ld1 ud1 d1 (y1)) (hv2 : Sl w lv2 uv2 v2 (z2)) (hd2 : Sl w ld2 ud2 d2 (y2)) (h63 : z1.length ≤ 4611686018427387904 ∧ y1.length ≤ 4611686018427387904 ∧ z2.length ≤ 4611686018427387904 ∧ y2.length ≤ 4611686018427387904) :
  Ret Try.prog 69 [.agg #[.bool n1, v1, d1], .agg #[.bool n2, v2, d2]] w fun v w' => ∃ s t ls us lt ut, v = .tuple #[.agg #[.bool ((rDiv n1 z1 y1 n2 z2 y2).1), s, t], .bool ((rDiv n1 z1 y1 n2 z2 y2).2.2.2)] ∧ OwnI w' (ls) (us) s intT ((rDiv n1 z1 y1 n2 z2 y2).2.1) ∧ OwnI w' (lt) (ut) t intT ((rDiv n1 z1 y1 n2 z2 y2).2.2.1) ∧ (w.heap.size ≤ ls ∧ us ≤ w'.heap.size ∧ w.heap.size ≤ lt ∧ ut ≤ w'.heap.size ∧ (us ≤ lt ∨ ut ≤ ls)) ∧ ((rDiv n1 z1 y1 n2 z2 y2).2.1.length ≤ 18 ∧ (rDiv n1 z1 y1 n2 z2 y2).2.2.1.length ≤ 18) ∧ Chg 0 0 w w' := by
 have hv10 := hv1.fit
 have hd10 := hd1.fit
 have hv20 := hv2.fit
 have hd20 := hd2.fit
 refine sx_enter Try.func69 rfl Try.ntmps69 (Nat.le_of_ble_eq_true rfl) ?_
 refine sx_seq fun K1 k1 => sx_region ?_
 refine sx_box [.bool n1, v1, d1] rfl rfl rfl (fun b2 w3 eb2 sb2 fb2 cb2 => ?_)
 have zw3 := cb2.size
 refine sx_box [.bool n2, v2, d2] rfl rfl rfl (fun b4 w5 eb4 sb4 fb4 cb4 => ?_)
 have zw5 := cb4.size
 refine sx_alloc [.bool false, (.slice none 0 0), (.slice none 0 0)] rfl Try.zeroValue44 rfl (fun b6 w7 eb6 sb6 fb6 cb6 => ?_)
 have zw7 := cb6.size
 refine sa rfl rfl rfl rfl ?_
 refine wl_nil (q_n (k1 _ _ ?_))
 refine sx_seq fun K8 k8 => ?_
 refine sx_seq fun K9 k9 => sx_region ?_
 have f10 := fb2.ext cb4
 have f11 := f10.ext cb6
 refine sx_pure rfl rfl rfl (px_load rfl (f11.loadA (vs := [.bool n1, v1, d1]) (look_lit rfl) Try.isAgg44 Try.sizeOf44)) ?_
 have f12 := hv10.ext cb2
 have f13 := f12.ext cb4
 have f14 := f13.ext cb6
 have f15 := hd10.ext cb2
 have f16 := f15.ext cb4
 have f17 := f16.ext cb6
 refine sx_call rfl rfl Try.call47 (c_sRatOk f14 f17 (by omega)) (fun v18 w18 p18 => ?_)
 obtain ⟨rfl, c18⟩ := p18
 have zw18 := c18.size
 refine sx_pure rfl rfl rfl (px_notP rfl) ?_
 refine sm rfl rfl rfl rfl ?_
 refine sx_tmpP (t := 9) rfl (fun h92 => ?_) (fun h92 => ?_)
 ·
  refine sx_guardF rfl rfl rfl rfl rfl rfl ?_
  refine sx_guardF rfl rfl rfl rfl rfl rfl ?_
  refine sx_guardF rfl rfl rfl rfl rfl rfl ?_
  refine sx_pure rfl rfl rfl (px_pick rfl rfl) ?_
  refine wl_nil (q_n (k9 _ _ ?_))
  refine sx_condT rfl ?_
  refine sx_seq fun K19 k19 => sx_region ?_
  refine sx_pure rfl rfl rfl (px_build rfl (xbld44x  _)) ?_
  have f21 := fb6.ext c18
  refine sx_store (vs := [.bool false, (.slice none 0 0), (.slice none 0 0)]) rfl rfl f21 rfl Try.sizeOf44 (Nat.le_of_ble_eq_true rfl) (one_cons rfl (one_cons rfl (one_cons rfl one_nil))) (fun w20 sw20 fw20 cw20 => ?_)
  have zw20 := cw20.size
  have gw20 : Blk w20 b6 [.bool false, (.slice none 0 0), (.slice none 0 0)] 44 := fw20
  refine sa rfl rfl rfl rfl ?_
  refine wl_nil (q_n (k19 _ _ ?_))
  refine sx_sub (Sub.cons (t := 2) rfl (.cons (t := 3) rfl (.cons (t := 4) rfl (.cons (t := 5) rfl (.nil))))) ?_
  refine sx_retc ?_
  refine q_r (sx_ret2 Try.results69 ⟨_, rfl, gw20.loadA (vs := [.bool false, (.slice none 0 0), (.slice none 0 0)]) (look_lit rfl) Try.isAgg44 Try.sizeOf44⟩ rfl ?_)
  rw [rDiv_no (by grind)]
  have q22 := Chg.step (l := 0) (h := 0) (Chg.zero (l := 0) (h := 0) (((cb2.t cb4).t cb6).t c18)) cw20 (by omega)
  exact ⟨_, _, w.heap.size, w.heap.size, w.heap.size, w.heap.size, rfl, Own.nil _ _ _ _ _, Own.nil _ _ _ _ _, by omega, ⟨by simp [noR], by simp [noR]⟩, q22⟩
 ·
  refine sx_guardT rfl rfl rfl ?_
  have f23 := fb4.ext cb6
  have f24 := f23.ext c18
  refine sx_pure rfl rfl rfl (px_load rfl (f24.loadA (vs := [.bool n2, v2, d2]) (look_lit rfl) Try.isAgg44 Try.sizeOf44)) ?_
  refine sx_guardT rfl rfl rfl ?_
  have f25 := hv20.ext cb2
  have f26 := f25.ext cb4
  have f27 := f26.ext cb6
  have f28 := f27.ext c18
  have f29 := hd20.ext cb2
  have f30 := f29.ext cb4
  have f31 := f30.ext cb6
  have f32 := f31.ext c18
  refine sx_call rfl rfl Try.call47 (c_sRatOk f28 f32 (by omega)) (fun v33 w33 p33 => ?_)
  obtain ⟨rfl, c33⟩ := p33
  have zw33 := c33.size
  refine sx_guardT rfl rfl rfl ?_
  refine sx_pure rfl rfl rfl (px_notP rfl) ?_
  refine sx_pure rfl rfl rfl (px_pick rfl rfl) ?_
  refine wl_nil (q_n (k9 _ _ ?_))
  refine sx_condP rfl (fun h92x1 => ?_) (fun h92x1 => ?_)
  ·
   refine sx_seq fun K34 k34 => sx_region ?_
   refine sx_pure rfl rfl rfl (px_build rfl (xbld44x  _)) ?_
   have f36 := fb6.ext c18
   have f37 := f36.ext c33
   refine sx_store (vs := [.bool false, (.slice none 0 0), (.slice none 0 0)]) rfl rfl f37 rfl Try.sizeOf44 (Nat.le_of_ble_eq_true rfl) (one_cons rfl (one_cons rfl (one_cons rfl one_nil))) (fun w35 sw35 fw35 cw35 => ?_)
   have zw35 := cw35.size
   have gw35 : Blk w35 b6 [.bool false, (.slice none 0 0), (.slice none 0 0)] 44 := fw35
   refine sa rfl rfl rfl rfl ?_
   refine wl_nil (q_n (k34 _ _ ?_))
   refine sx_sub (Sub.cons (t := 2) rfl (.cons (t := 3) rfl (.cons (t := 4) rfl (.cons (t := 5) rfl (.nil))))) ?_
   refine sx_retc ?_
   refine q_r (sx_ret2 Try.results69 ⟨_, rfl, gw35.loadA (vs := [.bool false, (.slice none 0 0), (.slice none 0 0)]) (look_lit rfl) Try.isAgg44 Try.sizeOf44⟩ rfl ?_)
   rw [rDiv_no (by grind)]
   have q38 := Chg.step (l := 0) (h := 0) (Chg.zero (l := 0) (h := 0) ((((cb2.t cb4).t cb6).t c18).t c33)) cw35 (by omega)
   exact ⟨_, _, w.heap.size, w.heap.size, w.heap.size, w.heap.size, rfl, Own.nil _ _ _ _ _, Own.nil _ _ _ _ _, by omega, ⟨by simp [noR], by simp [noR]⟩, q38⟩
  ·
   have hR1 := Decidable.not_not.1 h92
   have hR2 := Decidable.not_not.1 h92x1
   obtain ⟨x1, e1, rfl, rfl, rfl, hp1, hx1, hy1, hg1⟩ := hR1.rat
   obtain ⟨x2, e2, rfl, rfl, rfl, hp2, hx2, hy2, hg2⟩ := hR2.rat
   have l1 := len_mul x1.natAbs e2
   have l2 := len_mul x2.natAbs e1
   have l3 := len_mul e1 e2
   have a1 : (x1 * (e2 : Int)).natAbs = x1.natAbs * e2 := by rw [Int.natAbs_mul, Int.natAbs_natCast]
   have a2 : (x2 * (e1 : Int)).natAbs = x2.natAbs * e1 := by rw [Int.natAbs_mul, Int.natAbs_natCast]
   have l4 := len_addI (x1 * (e2 : Int)) (x2 * (e1 : Int))
   rw [a1, a2] at l4
   have l5 := len_mul e1 x2.natAbs
   have l6 := len_mul x1.natAbs x2.natAbs
   refine sx_skip ?_
   refine q_n (k8 _ _ ?_)
   refine sx_seq fun K39 k39 => ?_
   have f40 := f11.ext c18
   have f41 := f40.ext c33
   have f42 := f24.ext c33
   have f43 := f14.ext c18
   have f44 := f43.ext c33
   have f45 := f17.ext c18
   have f46 := f45.ext c33
   have f47 := f28.ext c33
   have f48 := f32.ext c33
   refine dx_region (fun w' => Chg b6 (b6 + 1) w33 w') (by kernel_rfl) (Chg.zero (Chg.drew _)) ?_
   have d49 := Chg.drew w33
   have s49 : Chg b6 (b6 + 1) w33 (World.drew w33) := Chg.zero (Chg.drew _)
   have y49 : (World.drew w33).heap.size = w33.heap.size := rfl
   generalize World.drew w33 = w49 at *
   have zw49 := d49.size
   refine dx_take 0 rfl rfl rfl rfl (by kernel_rfl) (by kernel_rfl) (by kernel_rfl) s49 (fun _ hS => px_field rfl xfld44x0) ?_
   refine dx_take 1 rfl rfl rfl rfl (by kernel_rfl) (by kernel_rfl) (by kernel_rfl) s49 (fun _ hS => px_field rfl xfld28x0) ?_
   refine dx_take 2 rfl rfl rfl rfl (by kernel_rfl) (by kernel_rfl) (by kernel_rfl) s49 (fun _ hS => px_load rfl ((f41.chg hS (by omega)).load1 rfl Try.isAgg4)) ?_
   refine dx_take 3 rfl rfl rfl rfl (by kernel_rfl) (by kernel_rfl) (by kernel_rfl) s49 (fun _ hS => px_field rfl xfld44x0) ?_
   refine dx_take 4 rfl rfl rfl rfl (by kernel_rfl) (by kernel_rfl) (by kernel_rfl) s49 (fun _ hS => px_field rfl xfld28x0) ?_
   refine dx_take 5 rfl rfl rfl rfl (by kernel_rfl) (by kernel_rfl) (by kernel_rfl) s49 (fun _ hS => px_load rfl ((f42.chg hS (by omega)).load1 rfl Try.isAgg4)) ?_
   refine dx_take 6 rfl rfl rfl rfl (by kernel_rfl) (by kernel_rfl) (by kernel_rfl) s49 (fun _ hS => px_neB Try.underlying4 rfl rfl) ?_
   refine dx_take 7 rfl rfl rfl rfl (by kernel_rfl) (by kernel_rfl) (by kernel_rfl) s49 (fun _ hS => px_field rfl xfld44x0) ?_
   refine dx_take 8 rfl rfl rfl rfl (by kernel_rfl) (by kernel_rfl) (by kernel_rfl) s49 (fun _ hS => px_field rfl xfld28x1) ?_
   refine dx_take 9 rfl rfl rfl rfl (by kernel_rfl) (by kernel_rfl) (by kernel_rfl) s49 (fun _ hS => px_load rfl ((f41.chg hS (by omega)).load1 rfl Try.isAgg22)) ?_
   refine dx_take 10 rfl rfl rfl rfl (by kernel_rfl) (by kernel_rfl) (by kernel_rfl) s49 (fun _ hS => px_field rfl xfld44x1) ?_
   refine dx_take 11 rfl rfl rfl rfl (by kernel_rfl) (by kernel_rfl) (by kernel_rfl) s49 (fun _ hS => px_load rfl ((f42.chg hS (by omega)).load1 rfl Try.isAgg22)) ?_
   refine dx_take 13 rfl rfl rfl rfl (by kernel_rfl) (by kernel_rfl) (by kernel_rfl) s49 (fun _ hS => px_field rfl xfld44x1) ?_
   refine dx_take 14 rfl rfl rfl rfl (by kernel_rfl) (by kernel_rfl) (by kernel_rfl) s49 (fun _ hS => px_load rfl ((f41.chg hS (by omega)).load1 rfl Try.isAgg22)) ?_
   refine dx_take 15 rfl rfl rfl rfl (by kernel_rfl) (by kernel_rfl) (by kernel_rfl) s49 (fun _ hS => px_field rfl xfld44x0) ?_
   refine dx_take 16 rfl rfl rfl rfl (by kernel_rfl) (by kernel_rfl) (by kernel_rfl) s49 (fun _ hS => px_field rfl xfld28x1) ?_
   refine dx_take 17 rfl rfl rfl rfl (by kernel_rfl) (by kernel_rfl) (by kernel_rfl) s49 (fun _ hS => px_load rfl ((f42.chg hS (by omega)).load1 rfl Try.isAgg22)) ?_
   refine dx_eff 12 rfl (by kernel_rfl) ?_
   have f50 := f44.ext d49
   have f51 := f48.ext d49
   refine sx_call rfl rfl Try.call49 (c_l02Mul f50 f51 (by omega) (by omega)) (fun v52 w52 p52 => ?_)
   obtain ⟨s52, rfl, os_52, c52⟩ := p52
   have zw52 := c52.size
   have s53 : Chg b6 (b6 + 1) w33 w52 := (Chg.zero (l := b6) (h := (b6 + 1)) (d49.t c52))
   refine wl_nil ?_
   refine dx_next s53 ?_
   refine dx_eff 18 rfl (by kernel_rfl) ?_
   have f54 := f46.ext d49
   have f55 := f54.ext c52
   have f56 := f47.ext d49
   have f57 := f56.ext c52
   refine sx_call rfl rfl Try.call49 (c_l02Mul f55 f57 (by omega) (by omega)) (fun v58 w58 p58 => ?_)
   obtain ⟨s58, rfl, os_58, c58⟩ := p58
   have zw58 := c58.size
   have s59 : Chg b6 (b6 + 1) w33 w58 := (Chg.zero (l := b6) (h := (b6 + 1)) ((d49.t c52).t c58))
   refine wl_nil ?_
   refine dx_next s59 ?_
   refine dx_eff 19 rfl (by kernel_rfl) ?_
   have f60 := os_52.ext c58
   refine sx_call rfl rfl Try.call109 (c_l05Low f60 os_58 (by omega) (by omega)) (fun v61 w61 p61 => ?_)
   obtain ⟨s61, t61, ls61, us61, lt61, ut61, rfl, os_61, ot_61, hd61, hl61, c61⟩ := p61
   have zw61 := c61.size
   have s62 : Chg b6 (b6 + 1) w33 w61 := (Chg.zero (l := b6) (h := (b6 + 1)) (((d49.t c52).t c58).t c61))
   refine wl_nil ?_
   refine dx_next s62 ?_
   refine dx_take 20 rfl rfl rfl rfl (by kernel_rfl) (by kernel_rfl) (by kernel_rfl) s62 (fun _ hS => px_extract (vs := [.agg #[.bool ((rR (sgI ((ng x1) != (ng x2)) (x1.natAbs * e2)) (e1 * x2.natAbs)).1), s61, t61], .bool ((rR (sgI ((ng x1) != (ng x2)) (x1.natAbs * e2)) (e1 * x2.natAbs)).2.2.2)]) rfl rfl) ?_
   refine dx_take 21 rfl rfl rfl rfl (by kernel_rfl) (by kernel_rfl) (by kernel_rfl) s62 (fun _ hS => px_extract (vs := [.agg #[.bool ((rR (sgI ((ng x1) != (ng x2)) (x1.natAbs * e2)) (e1 * x2.natAbs)).1), s61, t61], .bool ((rR (sgI ((ng x1) != (ng x2)) (x1.natAbs * e2)) (e1 * x2.natAbs)).2.2.2)]) rfl rfl) ?_
   refine dx_eff 22 rfl (by kernel_rfl) ?_
   have f64 := fb6.ext c18
   have f65 := f64.ext c33
   have f66 := f65.ext d49
   have f67 := f66.ext c52
   have f68 := f67.ext c58
   have f69 := f68.ext c61
   refine sx_store (vs := [.bool ((rR (sgI ((ng x1) != (ng x2)) (x1.natAbs * e2)) (e1 * x2.natAbs)).1), s61, t61]) rfl rfl f69 rfl Try.sizeOf44 (Nat.le_of_ble_eq_true rfl) (one_cons rfl (one_cons os_61.one (one_cons ot_61.one one_nil))) (fun w63 sw63 fw63 cw63 => ?_)
   have zw63 := cw63.size
   have gw63 : Blk w63 b6 [.bool ((rR (sgI ((ng x1) != (ng x2)) (x1.natAbs * e2)) (e1 * x2.natAbs)).1), s61, t61] 44 := fw63
   have q71 := Chg.step (l := b6) (h := (b6 + 1)) (Chg.zero (l := b6) (h := (b6 + 1)) (((d49.t c52).t c58).t c61)) cw63 (by omega)
   have s70 : Chg b6 (b6 + 1) w33 w63 := q71
   refine wl_nil ?_
   refine dx_next s70 ?_
   refine dx_take 23 rfl rfl rfl rfl (by kernel_rfl) (by kernel_rfl) (by kernel_rfl) s70 (fun _ hS => px_assign rfl) ?_
   refine dx_done (by kernel_rfl) ?_
   refine q_n (k39 _ _ ?_)
   refine sx_sub (Sub.cons (t := 4) rfl (.cons (t := 5) rfl (.nil))) ?_
   refine sx_retc ?_
   refine sx_ret2 Try.results69 ⟨_, rfl, gw63.loadA (vs := [.bool ((rR (sgI ((ng x1) != (ng x2)) (x1.natAbs * e2)) (e1 * x2.natAbs)).1), s61, t61]) (look_lit rfl) Try.isAgg44 Try.sizeOf44⟩ rfl ?_
   have hrl := rDiv_len (n1 := ng x1) (z1 := dg x1.natAbs) (y1 := dg e1) (n2 := ng x2) (z2 := dg x2.natAbs) (y2 := dg e2)
   rw [rDiv_ok hR1 hR2] at hrl ⊢
   have q72 := Chg.step (l := 0) (h := 0) (Chg.zero (l := 0) (h := 0) ((((((((cb2.t cb4).t cb6).t c18).t c33).t d49).t c52).t c58).t c61)) cw63 (by omega)
   have f73 := os_61.chg cw63 (by omega)
   have f74 := ot_61.chg cw63 (by omega)
   exact ⟨_, _, _, _, _, _, rfl, f73, f74, by omega, hrl, q72⟩

theorem c_sDecDiv {w : World} {n1 : Bool} {v1 : Value} {lv1 uv1 : Nat} {z1 : List Int} {p1 : Int} {n2 : Bool} {v2 : Value} {lv2 uv2 : Nat} {z2 : List Int} {p2 : Int} {q : Int} {m : Int} (hv1 : Sl w lv1 uv1 v1 (z1)) (hv2 : Sl w lv2 uv2 v2 (z2)) (h63 : z1.length ≤ 4611686018427387904 ∧ z2.length ≤ 4611686018427387904) :
  Ret Try.prog 29 [.agg #[.bool n1, v1, .int .i64 p1], .agg #[.bool n2, v2, .int .i64 p2], .int .i64 q, .int .i64 m] w fun v w' => ∃ s, v = .tuple #[.agg #[.bool ((dDiv n1 z1 p1 n2 z2 p2 q m).1), s, .int .i64 ((dDiv n1 z1 p1 n2 z2 p2 q m).2.2.1)], .bool ((dDiv n1 z1 p1 n2 z2 p2 q m).2.2.2)] ∧ OwnI w' w.heap.size w'.heap.size s intT ((dDiv n1 z1 p1 n2 z2 p2 q m).2.1) ∧ ((dDiv n1 z1 p1 n2 z2 p2 q m).2.1.length ≤ 6) ∧ Chg 0 0 w w' := by
 have hv10 := hv1.fit
 have hv20 := hv2.fit
 refine sx_enter Try.func29 rfl Try.ntmps29 (Nat.le_of_ble_eq_true rfl) ?_
 refine sx_seq fun K1 k1 => sx_region ?_
 refine sx_box [.bool n1, v1, .int .i64 p1] rfl rfl rfl (fun b2 w3 eb2 sb2 fb2 cb2 => ?_)
 have zw3 := cb2.size
 refine sx_box [.bool n2, v2, .int .i64 p2] rfl rfl rfl (fun b4 w5 eb4 sb4 fb4 cb4 => ?_)
 have zw5 := cb4.size
 refine sx_alloc [.bool false, (.slice none 0 0), .int .i64 0] rfl Try.zeroValue30 rfl (fun b6 w7 eb6 sb6 fb6 cb6 => ?_)
 have zw7 := cb6.size
 refine sa rfl rfl rfl rfl ?_
 refine wl_nil (q_n (k1 _ _ ?_))
 refine sx_seq fun K8 k8 => ?_
 refine sx_cut k8 (fun fr w' => ∃ (gb9x0 : Nat) (gs9x1 : Value) (gl9x1 : Nat) (gu9x1 : Nat) (gs9x2 : Value) (gl9x2 : Nat) (gu9x2 : Nat), fr = [(2, .int .i64 q), (3, .int .i64 m), (8, .pointer (some ⟨b6, 0, none⟩)), (9, .bool false), (10, .pointer (some ⟨gb9x0, 0, none⟩)), (11, .bool ((rDiv ((dRat n1 z1 p1).1) ((dRat n1 z1 p1).2.1) ((dRat n1 z1 p1).2.2.1) ((dRat n2 z2 p2).1) ((dRat n2 z2 p2).2.1) ((dRat n2 z2 p2).2.2.1)).2.2.2))] ∧ Chg 0 0 w7 w' ∧ (Blk w' gb9x0 [.bool ((rDiv ((dRat n1 z1 p1).1) ((dRat n1 z1 p1).2.1) ((dRat n1 z1 p1).2.2.1) ((dRat n2 z2 p2).1) ((dRat n2 z2 p2).2.1) ((dRat n2 z2 p2).2.2.1)).1), gs9x1, gs9x2] 44) ∧ (Own w' gl9x1 gu9x1 gs9x1 intT (((rDiv ((dRat n1 z1 p1).1) ((dRat n1 z1 p1).2.1) ((dRat n1 z1 p1).2.2.1) ((dRat n2 z2 p2).1) ((dRat n2 z2 p2).2.1) ((dRat n2 z2 p2).2.2.1)).2.1).length) 1 (((rDiv ((dRat n1 z1 p1).1) ((dRat n1 z1 p1).2.1) ((dRat n1 z1 p1).2.2.1) ((dRat n2 z2 p2).1) ((dRat n2 z2 p2).2.1) ((dRat n2 z2 p2).2.2.1)).2.1).map (Value.int .i64))) ∧ (Own w' gl9x2 gu9x2 gs9x2 intT (((rDiv ((dRat n1 z1 p1).1) ((dRat n1 z1 p1).2.1) ((dRat n1 z1 p1).2.2.1) ((dRat n2 z2 p2).1) ((dRat n2 z2 p2).2.1) ((dRat n2 z2 p2).2.2.1)).2.2.1).length) 1 (((rDiv ((dRat n1 z1 p1).1) ((dRat n1 z1 p1).2.1) ((dRat n1 z1 p1).2.2.1) ((dRat n2 z2 p2).1) ((dRat n2 z2 p2).2.1) ((dRat n2 z2 p2).2.2.1)).2.2.1).map (Value.int .i64))) ∧ (w7.heap.size ≤ gb9x0 ∧ gb9x0 + 1 ≤ w'.heap.size) ∧ (w7.heap.size ≤ gl9x1 ∧ gu9x1 ≤ w'.heap.size) ∧ (w7.heap.size ≤ gl9x2 ∧ gu9x2 ≤ w'.heap.size) ∧ (gu9x1 ≤ gb9x0 ∨ gb9x0 + 1 ≤ gl9x1) ∧ (gu9x2 ≤ gb9x0 ∨ gb9x0 + 1 ≤ gl9x2) ∧ (gu9x2 ≤ gl9x1 ∨ gu9x1 ≤ gl9x2)) (fun kc9 => ?_) ?_
 ·
  have f10 := fb2.ext cb4
  have f11 := f10.ext cb6
  have f12 := fb4.ext cb6
  have f13 := hv10.ext cb2
  have f14 := f13.ext cb4
  have f15 := f14.ext cb6
  have f16 := hv20.ext cb2
  have f17 := f16.ext cb4
  have f18 := f17.ext cb6
  refine dx_region (fun w' => Chg 0 0 w7 w') (by kernel_rfl) (Chg.zero (Chg.drew _)) ?_
  have d19 := Chg.drew w7
  have s19 : Chg 0 0 w7 (World.drew w7) := Chg.zero (Chg.drew _)
  have y19 : (World.drew w7).heap.size = w7.heap.size := rfl
  generalize World.drew w7 = w19 at *
  have zw19 := d19.size
  refine dx_take 0 rfl rfl rfl rfl (by kernel_rfl) (by kernel_rfl) (by kernel_rfl) s19 (fun _ hS => px_load rfl ((f11.chg hS (by omega)).loadA (vs := [.bool n1, v1, .int .i64 p1]) (look_lit rfl) Try.isAgg30 Try.sizeOf30)) ?_
  refine dx_take 2 rfl rfl rfl rfl (by kernel_rfl) (by kernel_rfl) (by kernel_rfl) s19 (fun _ hS => px_load rfl ((f12.chg hS (by omega)).loadA (vs := [.bool n2, v2, .int .i64 p2]) (look_lit rfl) Try.isAgg30 Try.sizeOf30)) ?_
  refine dx_eff2 1 8 rfl rfl (by kernel_rfl) ?_ ?_
  ·
   have f20 := f15.ext d19
   refine sx_call rfl rfl Try.call70 (c_sDecRat f20 (by omega)) (fun v21 w21 p21 => ?_)
   obtain ⟨s21, t21, ls21, us21, lt21, ut21, rfl, os_21, ot_21, hd21, hl21, c21⟩ := p21
   have zw21 := c21.size
   have s22 : Chg 0 0 w7 w21 := (d19.t c21)
   refine wl_nil ?_
   refine dx_next s22 ?_
   refine dx_eff2 3 8 rfl rfl (by kernel_rfl) ?_ ?_
   ·
    have f23 := f18.ext d19
    have f24 := f23.ext c21
    refine sx_call rfl rfl Try.call70 (c_sDecRat f24 (by omega)) (fun v25 w25 p25 => ?_)
    obtain ⟨s25, t25, ls25, us25, lt25, ut25, rfl, os_25, ot_25, hd25, hl25, c25⟩ := p25
    have zw25 := c25.size
    have s26 : Chg 0 0 w7 w25 := ((d19.t c21).t c25)
    refine wl_nil ?_
    refine dx_next s26 ?_
    refine dx_eff2 4 8 rfl rfl (by kernel_rfl) ?_ ?_
    ·
     have f27 := os_21.ext c25
     have f28 := ot_21.ext c25
     refine sx_call rfl rfl Try.call69 (c_sRatDiv f27.sv f28.sv os_25.sv ot_25.sv (by omega)) (fun v29 w29 p29 => ?_)
     obtain ⟨s29, t29, ls29, us29, lt29, ut29, rfl, os_29, ot_29, hd29, hl29, c29⟩ := p29
     have zw29 := c29.size
     have s30 : Chg 0 0 w7 w29 := (((d19.t c21).t c25).t c29)
     refine wl_nil ?_
     refine dx_next s30 ?_
     refine dx_take 5 rfl rfl rfl rfl (by kernel_rfl) (by kernel_rfl) (by kernel_rfl) s30 (fun _ hS => px_move rfl) ?_
     refine dx_take 6 rfl rfl rfl rfl (by kernel_rfl) (by kernel_rfl) (by kernel_rfl) s30 (fun _ hS => px_extract (vs := [.agg #[.bool ((rDiv ((dRat n1 z1 p1).1) ((dRat n1 z1 p1).2.1) ((dRat n1 z1 p1).2.2.1) ((dRat n2 z2 p2).1) ((dRat n2 z2 p2).2.1) ((dRat n2 z2 p2).2.2.1)).1), s29, t29], .bool ((rDiv ((dRat n1 z1 p1).1) ((dRat n1 z1 p1).2.1) ((dRat n1 z1 p1).2.2.1) ((dRat n2 z2 p2).1) ((dRat n2 z2 p2).2.1) ((dRat n2 z2 p2).2.2.1)).2.2.2)]) rfl rfl) ?_
     refine dx_take 7 rfl rfl rfl rfl (by kernel_rfl) (by kernel_rfl) (by kernel_rfl) s30 (fun _ hS => px_extract (vs := [.agg #[.bool ((rDiv ((dRat n1 z1 p1).1) ((dRat n1 z1 p1).2.1) ((dRat n1 z1 p1).2.2.1) ((dRat n2 z2 p2).1) ((dRat n2 z2 p2).2.1) ((dRat n2 z2 p2).2.2.1)).1), s29, t29], .bool ((rDiv ((dRat n1 z1 p1).1) ((dRat n1 z1 p1).2.1) ((dRat n1 z1 p1).2.2.1) ((dRat n2 z2 p2).1) ((dRat n2 z2 p2).2.1) ((dRat n2 z2 p2).2.2.1)).2.2.2)]) rfl rfl) ?_
     refine dx_eff 8 rfl (by kernel_rfl) ?_
     refine sx_alloc [.bool false, (.slice none 0 0), (.slice none 0 0)] rfl Try.zeroValue44 rfl (fun b31 w32 eb31 sb31 fb31 cb31 => ?_)
     have zw32 := cb31.size
     have s33 : Chg 0 0 w7 w32 := ((((d19.t c21).t c25).t c29).t cb31)
     refine wl_nil ?_
     refine dx_next s33 ?_
     refine dx_eff 9 rfl (by kernel_rfl) ?_
     have f35 := ot_29.ext cb31
     have f36 := os_29.ext cb31
     refine sx_store (vs := [.bool ((rDiv ((dRat n1 z1 p1).1) ((dRat n1 z1 p1).2.1) ((dRat n1 z1 p1).2.2.1) ((dRat n2 z2 p2).1) ((dRat n2 z2 p2).2.1) ((dRat n2 z2 p2).2.2.1)).1), s29, t29]) rfl rfl fb31 rfl Try.sizeOf44 (Nat.le_of_ble_eq_true rfl) (one_cons rfl (one_cons f36.one (one_cons f35.one one_nil))) (fun w34 sw34 fw34 cw34 => ?_)
     have zw34 := cw34.size
     have gw34 : Blk w34 b31 [.bool ((rDiv ((dRat n1 z1 p1).1) ((dRat n1 z1 p1).2.1) ((dRat n1 z1 p1).2.2.1) ((dRat n2 z2 p2).1) ((dRat n2 z2 p2).2.1) ((dRat n2 z2 p2).2.2.1)).1), s29, t29] 44 := fw34
     have q38 := Chg.step (l := 0) (h := 0) (Chg.zero (l := 0) (h := 0) ((((d19.t c21).t c25).t c29).t cb31)) cw34 (by omega)
     have s37 : Chg 0 0 w7 w34 := q38
     refine wl_nil ?_
     refine dx_next s37 ?_
     refine dx_take 10 rfl rfl rfl rfl (by kernel_rfl) (by kernel_rfl) (by kernel_rfl) s37 (fun _ hS => px_assign rfl) ?_
     refine dx_done (by kernel_rfl) ?_
     have f39 := f36.chg cw34 (by omega)
     have f40 := f35.chg cw34 (by omega)
     have q41 := Chg.step (l := 0) (h := 0) (Chg.zero (l := 0) (h := 0) ((((d19.t c21).t c25).t c29).t cb31)) cw34 (by omega)
     exact q_n (kw_sub (Sub.cons (t := 2) rfl (.cons (t := 3) rfl (.cons (t := 8) rfl (.cons (t := 9) rfl (.cons (t := 10) rfl (.cons (t := 11) rfl (.nil))))))) (kc9 _ _ ⟨b31, s29, ls29, us29, t29, lt29, ut29, rfl, q41, gw34, f39, f40, by omega, by omega, by omega, by omega, by omega, by omega⟩))
    ·
     refine sx_alloc [.bool false, (.slice none 0 0), (.slice none 0 0)] rfl Try.zeroValue44 rfl (fun b42 w43 eb42 sb42 fb42 cb42 => ?_)
     have zw43 := cb42.size
     have s44 : Chg 0 0 w7 w43 := (((d19.t c21).t c25).t cb42)
     refine wl_nil ?_
     refine dx_next s44 ?_
     refine dx_eff 4 rfl (by kernel_rfl) ?_
     have f45 := os_21.ext c25
     have f46 := f45.ext cb42
     have f47 := ot_21.ext c25
     have f48 := f47.ext cb42
     have f49 := os_25.ext cb42
     have f50 := ot_25.ext cb42
     refine sx_call rfl rfl Try.call69 (c_sRatDiv f46.sv f48.sv f49.sv f50.sv (by omega)) (fun v51 w51 p51 => ?_)
     obtain ⟨s51, t51, ls51, us51, lt51, ut51, rfl, os_51, ot_51, hd51, hl51, c51⟩ := p51
     have zw51 := c51.size
     have s52 : Chg 0 0 w7 w51 := ((((d19.t c21).t c25).t cb42).t c51)
     refine wl_nil ?_
     refine dx_next s52 ?_
     refine dx_take 5 rfl rfl rfl rfl (by kernel_rfl) (by kernel_rfl) (by kernel_rfl) s52 (fun _ hS => px_move rfl) ?_
     refine dx_take 6 rfl rfl rfl rfl (by kernel_rfl) (by kernel_rfl) (by kernel_rfl) s52 (fun _ hS => px_extract (vs := [.agg #[.bool ((rDiv ((dRat n1 z1 p1).1) ((dRat n1 z1 p1).2.1) ((dRat n1 z1 p1).2.2.1) ((dRat n2 z2 p2).1) ((dRat n2 z2 p2).2.1) ((dRat n2 z2 p2).2.2.1)).1), s51, t51], .bool ((rDiv ((dRat n1 z1 p1).1) ((dRat n1 z1 p1).2.1) ((dRat n1 z1 p1).2.2.1) ((dRat n2 z2 p2).1) ((dRat n2 z2 p2).2.1) ((dRat n2 z2 p2).2.2.1)).2.2.2)]) rfl rfl) ?_
     refine dx_take 7 rfl rfl rfl rfl (by kernel_rfl) (by kernel_rfl) (by kernel_rfl) s52 (fun _ hS => px_extract (vs := [.agg #[.bool ((rDiv ((dRat n1 z1 p1).1) ((dRat n1 z1 p1).2.1) ((dRat n1 z1 p1).2.2.1) ((dRat n2 z2 p2).1) ((dRat n2 z2 p2).2.1) ((dRat n2 z2 p2).2.2.1)).1), s51, t51], .bool ((rDiv ((dRat n1 z1 p1).1) ((dRat n1 z1 p1).2.1) ((dRat n1 z1 p1).2.2.1) ((dRat n2 z2 p2).1) ((dRat n2 z2 p2).2.1) ((dRat n2 z2 p2).2.2.1)).2.2.2)]) rfl rfl) ?_
     refine dx_eff 9 rfl (by kernel_rfl) ?_
     have f54 := fb42.ext c51
     refine sx_store (vs := [.bool ((rDiv ((dRat n1 z1 p1).1) ((dRat n1 z1 p1).2.1) ((dRat n1 z1 p1).2.2.1) ((dRat n2 z2 p2).1) ((dRat n2 z2 p2).2.1) ((dRat n2 z2 p2).2.2.1)).1), s51, t51]) rfl rfl f54 rfl Try.sizeOf44 (Nat.le_of_ble_eq_true rfl) (one_cons rfl (one_cons os_51.one (one_cons ot_51.one one_nil))) (fun w53 sw53 fw53 cw53 => ?_)
     have zw53 := cw53.size
     have gw53 : Blk w53 b42 [.bool ((rDiv ((dRat n1 z1 p1).1) ((dRat n1 z1 p1).2.1) ((dRat n1 z1 p1).2.2.1) ((dRat n2 z2 p2).1) ((dRat n2 z2 p2).2.1) ((dRat n2 z2 p2).2.2.1)).1), s51, t51] 44 := fw53
     have q56 := Chg.step (l := 0) (h := 0) (Chg.zero (l := 0) (h := 0) ((((d19.t c21).t c25).t cb42).t c51)) cw53 (by omega)
     have s55 : Chg 0 0 w7 w53 := q56
     refine wl_nil ?_
     refine dx_next s55 ?_
     refine dx_take 10 rfl rfl rfl rfl (by kernel_rfl) (by kernel_rfl) (by kernel_rfl) s55 (fun _ hS => px_assign rfl) ?_
     refine dx_done (by kernel_rfl) ?_
     have f57 := os_51.chg cw53 (by omega)
     have f58 := ot_51.chg cw53 (by omega)
     have q59 := Chg.step (l := 0) (h := 0) (Chg.zero (l := 0) (h := 0) ((((d19.t c21).t c25).t cb42).t c51)) cw53 (by omega)
     exact q_n (kw_sub (Sub.cons (t := 2) rfl (.cons (t := 3) rfl (.cons (t := 8) rfl (.cons (t := 9) rfl (.cons (t := 10) rfl (.cons (t := 11) rfl (.nil))))))) (kc9 _ _ ⟨b42, s51, ls51, us51, t51, lt51, ut51, rfl, q59, gw53, f57, f58, by omega, by omega, by omega, by omega, by omega, by omega⟩))
   ·
    refine sx_alloc [.bool false, (.slice none 0 0), (.slice none 0 0)] rfl Try.zeroValue44 rfl (fun b60 w61 eb60 sb60 fb60 cb60 => ?_)
    have zw61 := cb60.size
    have s62 : Chg 0 0 w7 w61 := ((d19.t c21).t cb60)
    refine wl_nil ?_
    refine dx_next s62 ?_
    refine dx_eff 3 rfl (by kernel_rfl) ?_
    have f63 := f18.ext d19
    have f64 := f63.ext c21
    have f65 := f64.ext cb60
    refine sx_call rfl rfl Try.call70 (c_sDecRat f65 (by omega)) (fun v66 w66 p66 => ?_)
    obtain ⟨s66, t66, ls66, us66, lt66, ut66, rfl, os_66, ot_66, hd66, hl66, c66⟩ := p66
    have zw66 := c66.size
    have s67 : Chg 0 0 w7 w66 := (((d19.t c21).t cb60).t c66)
    refine wl_nil ?_
    refine dx_next s67 ?_
    refine dx_eff 4 rfl (by kernel_rfl) ?_
    have f68 := os_21.ext cb60
    have f69 := f68.ext c66
    have f70 := ot_21.ext cb60
    have f71 := f70.ext c66
    refine sx_call rfl rfl Try.call69 (c_sRatDiv f69.sv f71.sv os_66.sv ot_66.sv (by omega)) (fun v72 w72 p72 => ?_)
    obtain ⟨s72, t72, ls72, us72, lt72, ut72, rfl, os_72, ot_72, hd72, hl72, c72⟩ := p72
    have zw72 := c72.size
    have s73 : Chg 0 0 w7 w72 := ((((d19.t c21).t cb60).t c66).t c72)
    refine wl_nil ?_
    refine dx_next s73 ?_
    refine dx_take 5 rfl rfl rfl rfl (by kernel_rfl) (by kernel_rfl) (by kernel_rfl) s73 (fun _ hS => px_move rfl) ?_
    refine dx_take 6 rfl rfl rfl rfl (by kernel_rfl) (by kernel_rfl) (by kernel_rfl) s73 (fun _ hS => px_extract (vs := [.agg #[.bool ((rDiv ((dRat n1 z1 p1).1) ((dRat n1 z1 p1).2.1) ((dRat n1 z1 p1).2.2.1) ((dRat n2 z2 p2).1) ((dRat n2 z2 p2).2.1) ((dRat n2 z2 p2).2.2.1)).1), s72, t72], .bool ((rDiv ((dRat n1 z1 p1).1) ((dRat n1 z1 p1).2.1) ((dRat n1 z1 p1).2.2.1) ((dRat n2 z2 p2).1) ((dRat n2 z2 p2).2.1) ((dRat n2 z2 p2).2.2.1)).2.2.2)]) rfl rfl) ?_
    refine dx_take 7 rfl rfl rfl rfl (by kernel_rfl) (by kernel_rfl) (by kernel_rfl) s73 (fun _ hS => px_extract (vs := [.agg #[.bool ((rDiv ((dRat n1 z1 p1).1) ((dRat n1 z1 p1).2.1) ((dRat n1 z1 p1).2.2.1) ((dRat n2 z2 p2).1) ((dRat n2 z2 p2).2.1) ((dRat n2 z2 p2).2.2.1)).1), s72, t72], .bool ((rDiv ((dRat n1 z1 p1).1) ((dRat n1 z1 p1).2.1) ((dRat n1 z1 p1).2.2.1) ((dRat n2 z2 p2).1) ((dRat n2 z2 p2).2.1) ((dRat n2 z2 p2).2.2.1)).2.2.2)]) rfl rfl) ?_
    refine dx_eff 9 rfl (by kernel_rfl) ?_
    have f75 := fb60.ext c66
    have f76 := f75.ext c72
    refine sx_store (vs := [.bool ((rDiv ((dRat n1 z1 p1).1) ((dRat n1 z1 p1).2.1) ((dRat n1 z1 p1).2.2.1) ((dRat n2 z2 p2).1) ((dRat n2 z2 p2).2.1) ((dRat n2 z2 p2).2.2.1)).1), s72, t72]) rfl rfl f76 rfl Try.sizeOf44 (Nat.le_of_ble_eq_true rfl) (one_cons rfl (one_cons os_72.one (one_cons ot_72.one one_nil))) (fun w74 sw74 fw74 cw74 => ?_)
    have zw74 := cw74.size
    have gw74 : Blk w74 b60 [.bool ((rDiv ((dRat n1 z1 p1).1) ((dRat n1 z1 p1).2.1) ((dRat n1 z1 p1).2.2.1) ((dRat n2 z2 p2).1) ((dRat n2 z2 p2).2.1) ((dRat n2 z2 p2).2.2.1)).1), s72, t72] 44 := fw74
    have q78 := Chg.step (l := 0) (h := 0) (Chg.zero (l := 0) (h := 0) ((((d19.t c21).t cb60).t c66).t c72)) cw74 (by omega)
    have s77 : Chg 0 0 w7 w74 := q78
    refine wl_nil ?_
    refine dx_next s77 ?_
    refine dx_take 10 rfl rfl rfl rfl (by kernel_rfl) (by kernel_rfl) (by kernel_rfl) s77 (fun _ hS => px_assign rfl) ?_
    refine dx_done (by kernel_rfl) ?_
    have f79 := os_72.chg cw74 (by omega)
    have f80 := ot_72.chg cw74 (by omega)
    have q81 := Chg.step (l := 0) (h := 0) (Chg.zero (l := 0) (h := 0) ((((d19.t c21).t cb60).t c66).t c72)) cw74 (by omega)
    exact q_n (kw_sub (Sub.cons (t := 2) rfl (.cons (t := 3) rfl (.cons (t := 8) rfl (.cons (t := 9) rfl (.cons (t := 10) rfl (.cons (t := 11) rfl (.nil))))))) (kc9 _ _ ⟨b60, s72, ls72, us72, t72, lt72, ut72, rfl, q81, gw74, f79, f80, by omega, by omega, by omega, by omega, by omega, by omega⟩))
  ·
   refine sx_alloc [.bool false, (.slice none 0 0), (.slice none 0 0)] rfl Try.zeroValue44 rfl (fun b82 w83 eb82 sb82 fb82 cb82 => ?_)
   have zw83 := cb82.size
   have s84 : Chg 0 0 w7 w83 := (d19.t cb82)
   refine wl_nil ?_
   refine dx_next s84 ?_
   refine dx_eff 1 rfl (by kernel_rfl) ?_
   have f85 := f15.ext d19
   have f86 := f85.ext cb82
   refine sx_call rfl rfl Try.call70 (c_sDecRat f86 (by omega)) (fun v87 w87 p87 => ?_)
   obtain ⟨s87, t87, ls87, us87, lt87, ut87, rfl, os_87, ot_87, hd87, hl87, c87⟩ := p87
   have zw87 := c87.size
   have s88 : Chg 0 0 w7 w87 := ((d19.t cb82).t c87)
   refine wl_nil ?_
   refine dx_next s88 ?_
   refine dx_eff 3 rfl (by kernel_rfl) ?_
   have f89 := f18.ext d19
   have f90 := f89.ext cb82
   have f91 := f90.ext c87
   refine sx_call rfl rfl Try.call70 (c_sDecRat f91 (by omega)) (fun v92 w92 p92 => ?_)
   obtain ⟨s92, t92, ls92, us92, lt92, ut92, rfl, os_92, ot_92, hd92, hl92, c92⟩ := p92
   have zw92 := c92.size
   have s93 : Chg 0 0 w7 w92 := (((d19.t cb82).t c87).t c92)
   refine wl_nil ?_
   refine dx_next s93 ?_
   refine dx_eff 4 rfl (by kernel_rfl) ?_
   have f94 := os_87.ext c92
   have f95 := ot_87.ext c92
   refine sx_call rfl rfl Try.call69 (c_sRatDiv f94.sv f95.sv os_92.sv ot_92.sv (by omega)) (fun v96 w96 p96 => ?_)
   obtain ⟨s96, t96, ls96, us96, lt96, ut96, rfl, os_96, ot_96, hd96, hl96, c96⟩ := p96
   have zw96 := c96.size
   have s97 : Chg 0 0 w7 w96 := ((((d19.t cb82).t c87).t c92).t c96)
   refine wl_nil ?_
   refine dx_next s97 ?_
   refine dx_take 5 rfl rfl rfl rfl (by kernel_rfl) (by kernel_rfl) (by kernel_rfl) s97 (fun _ hS => px_move rfl) ?_
   refine dx_take 6 rfl rfl rfl rfl (by kernel_rfl) (by kernel_rfl) (by kernel_rfl) s97 (fun _ hS => px_extract (vs := [.agg #[.bool ((rDiv ((dRat n1 z1 p1).1) ((dRat n1 z1 p1).2.1) ((dRat n1 z1 p1).2.2.1) ((dRat n2 z2 p2).1) ((dRat n2 z2 p2).2.1) ((dRat n2 z2 p2).2.2.1)).1), s96, t96], .bool ((rDiv ((dRat n1 z1 p1).1) ((dRat n1 z1 p1).2.1) ((dRat n1 z1 p1).2.2.1) ((dRat n2 z2 p2).1) ((dRat n2 z2 p2).2.1) ((dRat n2 z2 p2).2.2.1)).2.2.2)]) rfl rfl) ?_
   refine dx_take 7 rfl rfl rfl rfl (by kernel_rfl) (by kernel_rfl) (by kernel_rfl) s97 (fun _ hS => px_extract (vs := [.agg #[.bool ((rDiv ((dRat n1 z1 p1).1) ((dRat n1 z1 p1).2.1) ((dRat n1 z1 p1).2.2.1) ((dRat n2 z2 p2).1) ((dRat n2 z2 p2).2.1) ((dRat n2 z2 p2).2.2.1)).1), s96, t96], .bool ((rDiv ((dRat n1 z1 p1).1) ((dRat n1 z1 p1).2.1) ((dRat n1 z1 p1).2.2.1) ((dRat n2 z2 p2).1) ((dRat n2 z2 p2).2.1) ((dRat n2 z2 p2).2.2.1)).2.2.2)]) rfl rfl) ?_
   refine dx_eff 9 rfl (by kernel_rfl) ?_
   have f99 := fb82.ext c87
   have f100 := f99.ext c92
   have f101 := f100.ext c96
   refine sx_store (vs := [.bool ((rDiv ((dRat n1 z1 p1).1) ((dRat n1 z1 p1).2.1) ((dRat n1 z1 p1).2.2.1) ((dRat n2 z2 p2).1) ((dRat n2 z2 p2).2.1) ((dRat n2 z2 p2).2.2.1)).1), s96, t96]) rfl rfl f101 rfl Try.sizeOf44 (Nat.le_of_ble_eq_true rfl) (one_cons rfl (one_cons os_96.one (one_cons ot_96.one one_nil))) (fun w98 sw98 fw98 cw98 => ?_)
   have zw98 := cw98.size
   have gw98 : Blk w98 b82 [.bool ((rDiv ((dRat n1 z1 p1).1) ((dRat n1 z1 p1).2.1) ((dRat n1 z1 p1).2.2.1) ((dRat n2 z2 p2).1) ((dRat n2 z2 p2).2.1) ((dRat n2 z2 p2).2.2.1)).1), s96, t96] 44 := fw98
   have q103 := Chg.step (l := 0) (h := 0) (Chg.zero (l := 0) (h := 0) ((((d19.t cb82).t c87).t c92).t c96)) cw98 (by omega)
   have s102 : Chg 0 0 w7 w98 := q103
   refine wl_nil ?_
   refine dx_next s102 ?_
   refine dx_take 10 rfl rfl rfl rfl (by kernel_rfl) (by kernel_rfl) (by kernel_rfl) s102 (fun _ hS => px_assign rfl) ?_
   refine dx_done (by kernel_rfl) ?_
   have f104 := os_96.chg cw98 (by omega)
   have f105 := ot_96.chg cw98 (by omega)
   have q106 := Chg.step (l := 0) (h := 0) (Chg.zero (l := 0) (h := 0) ((((d19.t cb82).t c87).t c92).t c96)) cw98 (by omega)
   exact q_n (kw_sub (Sub.cons (t := 2) rfl (.cons (t := 3) rfl (.cons (t := 8) rfl (.cons (t := 9) rfl (.cons (t := 10) rfl (.cons (t := 11) rfl (.nil))))))) (kc9 _ _ ⟨b82, s96, ls96, us96, t96, lt96, ut96, rfl, q106, gw98, f104, f105, by omega, by omega, by omega, by omega, by omega, by omega⟩))
 ·
  rintro fr w'9 ⟨gb9x0, gs9x1, gl9x1, gu9x1, gs9x2, gl9x2, gu9x2, rfl, cw'9, xgb9x0, xgs9x1, xgs9x2, ygb9x0, ygl9x1, ygl9x2, dgl9x1xgb9x0, dgl9x2xgb9x0, dgl9x2xgl9x1⟩
  have zw'9 := cw'9.size
  refine sx_seq fun K107 k107 => ?_
  refine sx_seq fun K108 k108 => sx_region ?_
  refine sm rfl rfl rfl rfl ?_
  refine sx_pure rfl rfl rfl (px_not rfl) ?_
  refine wl_nil (q_n (k108 _ _ ?_))
  refine sx_condB rfl (fun h154 => ?_) (fun h154 => ?_)
  ·
   refine sx_seq fun K109 k109 => sx_region ?_
   refine sx_pure rfl rfl rfl (px_build rfl (xbld30x  _)) ?_
   have f111 := fb6.ext cw'9
   refine sx_store (vs := [.bool false, (.slice none 0 0), .int .i64 0]) rfl rfl f111 rfl Try.sizeOf30 (Nat.le_of_ble_eq_true rfl) (one_cons rfl (one_cons rfl (one_cons rfl one_nil))) (fun w110 sw110 fw110 cw110 => ?_)
   have zw110 := cw110.size
   have gw110 : Blk w110 b6 [.bool false, (.slice none 0 0), .int .i64 0] 30 := fw110
   refine sa rfl rfl rfl rfl ?_
   refine wl_nil (q_n (k109 _ _ ?_))
   refine sx_retc ?_
   refine q_r (sx_ret2 Try.results29 ⟨_, rfl, gw110.loadA (vs := [.bool false, (.slice none 0 0), .int .i64 0]) (look_lit rfl) Try.isAgg30 Try.sizeOf30⟩ rfl ?_)
   rw [show dDiv n1 z1 p1 n2 z2 p2 q m = noD by unfold dDiv; rw [if_neg (fun hh => bcl hh h154)]]
   have q112 := Chg.step (l := 0) (h := 0) (Chg.zero (l := 0) (h := 0) (((cb2.t cb4).t cb6).t cw'9)) cw110 (by omega)
   exact ⟨_, rfl, Own.nil _ _ _ _ _, by simp [noD], q112⟩
  ·
   refine sx_skip ?_
   refine q_n (k107 _ _ ?_)
   refine sx_seq fun K113 k113 => sx_region ?_
   refine sx_pure rfl rfl rfl (px_load rfl (xgb9x0.loadA (vs := [.bool ((rDiv ((dRat n1 z1 p1).1) ((dRat n1 z1 p1).2.1) ((dRat n1 z1 p1).2.2.1) ((dRat n2 z2 p2).1) ((dRat n2 z2 p2).2.1) ((dRat n2 z2 p2).2.2.1)).1), gs9x1, gs9x2]) (look_lit rfl) Try.isAgg44 Try.sizeOf44)) ?_
   refine sm rfl rfl rfl rfl ?_
   refine sm rfl rfl rfl rfl ?_
   refine sx_call rfl rfl Try.call18 (c_sRatDec xgs9x1.sv xgs9x2.sv (by have h9 := rDiv_len (n1 := (dRat n1 z1 p1).1) (z1 := (dRat n1 z1 p1).2.1) (y1 := (dRat n1 z1 p1).2.2.1) (n2 := (dRat n2 z2 p2).1) (z2 := (dRat n2 z2 p2).2.1) (y2 := (dRat n2 z2 p2).2.2.1); omega)) (fun v114 w114 p114 => ?_)
   obtain ⟨s114, rfl, os_114, hl114, c114⟩ := p114
   have zw114 := c114.size
   refine sx_pure rfl rfl rfl (px_extract (vs := [.agg #[.bool ((rDec ((rDiv ((dRat n1 z1 p1).1) ((dRat n1 z1 p1).2.1) ((dRat n1 z1 p1).2.2.1) ((dRat n2 z2 p2).1) ((dRat n2 z2 p2).2.1) ((dRat n2 z2 p2).2.2.1)).1) ((rDiv ((dRat n1 z1 p1).1) ((dRat n1 z1 p1).2.1) ((dRat n1 z1 p1).2.2.1) ((dRat n2 z2 p2).1) ((dRat n2 z2 p2).2.1) ((dRat n2 z2 p2).2.2.1)).2.1) ((rDiv ((dRat n1 z1 p1).1) ((dRat n1 z1 p1).2.1) ((dRat n1 z1 p1).2.2.1) ((dRat n2 z2 p2).1) ((dRat n2 z2 p2).2.1) ((dRat n2 z2 p2).2.2.1)).2.2.1) q m).1), s114, .int .i64 ((rDec ((rDiv ((dRat n1 z1 p1).1) ((dRat n1 z1 p1).2.1) ((dRat n1 z1 p1).2.2.1) ((dRat n2 z2 p2).1) ((dRat n2 z2 p2).2.1) ((dRat n2 z2 p2).2.2.1)).1) ((rDiv ((dRat n1 z1 p1).1) ((dRat n1 z1 p1).2.1) ((dRat n1 z1 p1).2.2.1) ((dRat n2 z2 p2).1) ((dRat n2 z2 p2).2.1) ((dRat n2 z2 p2).2.2.1)).2.1) ((rDiv ((dRat n1 z1 p1).1) ((dRat n1 z1 p1).2.1) ((dRat n1 z1 p1).2.2.1) ((dRat n2 z2 p2).1) ((dRat n2 z2 p2).2.1) ((dRat n2 z2 p2).2.2.1)).2.2.1) q m).2.2.1)], .bool ((rDec ((rDiv ((dRat n1 z1 p1).1) ((dRat n1 z1 p1).2.1) ((dRat n1 z1 p1).2.2.1) ((dRat n2 z2 p2).1) ((dRat n2 z2 p2).2.1) ((dRat n2 z2 p2).2.2.1)).1) ((rDiv ((dRat n1 z1 p1).1) ((dRat n1 z1 p1).2.1) ((dRat n1 z1 p1).2.2.1) ((dRat n2 z2 p2).1) ((dRat n2 z2 p2).2.1) ((dRat n2 z2 p2).2.2.1)).2.1) ((rDiv ((dRat n1 z1 p1).1) ((dRat n1 z1 p1).2.1) ((dRat n1 z1 p1).2.2.1) ((dRat n2 z2 p2).1) ((dRat n2 z2 p2).2.1) ((dRat n2 z2 p2).2.2.1)).2.2.1) q m).2.2.2)]) rfl rfl) ?_
   refine sx_pure rfl rfl rfl (px_extract (vs := [.agg #[.bool ((rDec ((rDiv ((dRat n1 z1 p1).1) ((dRat n1 z1 p1).2.1) ((dRat n1 z1 p1).2.2.1) ((dRat n2 z2 p2).1) ((dRat n2 z2 p2).2.1) ((dRat n2 z2 p2).2.2.1)).1) ((rDiv ((dRat n1 z1 p1).1) ((dRat n1 z1 p1).2.1) ((dRat n1 z1 p1).2.2.1) ((dRat n2 z2 p2).1) ((dRat n2 z2 p2).2.1) ((dRat n2 z2 p2).2.2.1)).2.1) ((rDiv ((dRat n1 z1 p1).1) ((dRat n1 z1 p1).2.1) ((dRat n1 z1 p1).2.2.1) ((dRat n2 z2 p2).1) ((dRat n2 z2 p2).2.1) ((dRat n2 z2 p2).2.2.1)).2.2.1) q m).1), s114, .int .i64 ((rDec ((rDiv ((dRat n1 z1 p1).1) ((dRat n1 z1 p1).2.1) ((dRat n1 z1 p1).2.2.1) ((dRat n2 z2 p2).1) ((dRat n2 z2 p2).2.1) ((dRat n2 z2 p2).2.2.1)).1) ((rDiv ((dRat n1 z1 p1).1) ((dRat n1 z1 p1).2.1) ((dRat n1 z1 p1).2.2.1) ((dRat n2 z2 p2).1) ((dRat n2 z2 p2).2.1) ((dRat n2 z2 p2).2.2.1)).2.1) ((rDiv ((dRat n1 z1 p1).1) ((dRat n1 z1 p1).2.1) ((dRat n1 z1 p1).2.2.1) ((dRat n2 z2 p2).1) ((dRat n2 z2 p2).2.1) ((dRat n2 z2 p2).2.2.1)).2.2.1) q m).2.2.1)], .bool ((rDec ((rDiv ((dRat n1 z1 p1).1) ((dRat n1 z1 p1).2.1) ((dRat n1 z1 p1).2.2.1) ((dRat n2 z2 p2).1) ((dRat n2 z2 p2).2.1) ((dRat n2 z2 p2).2.2.1)).1) ((rDiv ((dRat n1 z1 p1).1) ((dRat n1 z1 p1).2.1) ((dRat n1 z1 p1).2.2.1) ((dRat n2 z2 p2).1) ((dRat n2 z2 p2).2.1) ((dRat n2 z2 p2).2.2.1)).2.1) ((rDiv ((dRat n1 z1 p1).1) ((dRat n1 z1 p1).2.1) ((dRat n1 z1 p1).2.2.1) ((dRat n2 z2 p2).1) ((dRat n2 z2 p2).2.1) ((dRat n2 z2 p2).2.2.1)).2.2.1) q m).2.2.2)]) rfl rfl) ?_
   have f116 := fb6.ext cw'9
   have f117 := f116.ext c114
   refine sx_store (vs := [.bool ((rDec ((rDiv ((dRat n1 z1 p1).1) ((dRat n1 z1 p1).2.1) ((dRat n1 z1 p1).2.2.1) ((dRat n2 z2 p2).1) ((dRat n2 z2 p2).2.1) ((dRat n2 z2 p2).2.2.1)).1) ((rDiv ((dRat n1 z1 p1).1) ((dRat n1 z1 p1).2.1) ((dRat n1 z1 p1).2.2.1) ((dRat n2 z2 p2).1) ((dRat n2 z2 p2).2.1) ((dRat n2 z2 p2).2.2.1)).2.1) ((rDiv ((dRat n1 z1 p1).1) ((dRat n1 z1 p1).2.1) ((dRat n1 z1 p1).2.2.1) ((dRat n2 z2 p2).1) ((dRat n2 z2 p2).2.1) ((dRat n2 z2 p2).2.2.1)).2.2.1) q m).1), s114, .int .i64 ((rDec ((rDiv ((dRat n1 z1 p1).1) ((dRat n1 z1 p1).2.1) ((dRat n1 z1 p1).2.2.1) ((dRat n2 z2 p2).1) ((dRat n2 z2 p2).2.1) ((dRat n2 z2 p2).2.2.1)).1) ((rDiv ((dRat n1 z1 p1).1) ((dRat n1 z1 p1).2.1) ((dRat n1 z1 p1).2.2.1) ((dRat n2 z2 p2).1) ((dRat n2 z2 p2).2.1) ((dRat n2 z2 p2).2.2.1)).2.1) ((rDiv ((dRat n1 z1 p1).1) ((dRat n1 z1 p1).2.1) ((dRat n1 z1 p1).2.2.1) ((dRat n2 z2 p2).1) ((dRat n2 z2 p2).2.1) ((dRat n2 z2 p2).2.2.1)).2.2.1) q m).2.2.1)]) rfl rfl f117 rfl Try.sizeOf30 (Nat.le_of_ble_eq_true rfl) (one_cons rfl (one_cons os_114.one (one_cons rfl one_nil))) (fun w115 sw115 fw115 cw115 => ?_)
   have zw115 := cw115.size
   have gw115 : Blk w115 b6 [.bool ((rDec ((rDiv ((dRat n1 z1 p1).1) ((dRat n1 z1 p1).2.1) ((dRat n1 z1 p1).2.2.1) ((dRat n2 z2 p2).1) ((dRat n2 z2 p2).2.1) ((dRat n2 z2 p2).2.2.1)).1) ((rDiv ((dRat n1 z1 p1).1) ((dRat n1 z1 p1).2.1) ((dRat n1 z1 p1).2.2.1) ((dRat n2 z2 p2).1) ((dRat n2 z2 p2).2.1) ((dRat n2 z2 p2).2.2.1)).2.1) ((rDiv ((dRat n1 z1 p1).1) ((dRat n1 z1 p1).2.1) ((dRat n1 z1 p1).2.2.1) ((dRat n2 z2 p2).1) ((dRat n2 z2 p2).2.1) ((dRat n2 z2 p2).2.2.1)).2.2.1) q m).1), s114, .int .i64 ((rDec ((rDiv ((dRat n1 z1 p1).1) ((dRat n1 z1 p1).2.1) ((dRat n1 z1 p1).2.2.1) ((dRat n2 z2 p2).1) ((dRat n2 z2 p2).2.1) ((dRat n2 z2 p2).2.2.1)).1) ((rDiv ((dRat n1 z1 p1).1) ((dRat n1 z1 p1).2.1) ((dRat n1 z1 p1).2.2.1) ((dRat n2 z2 p2).1) ((dRat n2 z2 p2).2.1) ((dRat n2 z2 p2).2.2.1)).2.1) ((rDiv ((dRat n1 z1 p1).1) ((dRat n1 z1 p1).2.1) ((dRat n1 z1 p1).2.2.1) ((dRat n2 z2 p2).1) ((dRat n2 z2 p2).2.1) ((dRat n2 z2 p2).2.2.1)).2.2.1) q m).2.2.1)] 30 := fw115
   refine sa rfl rfl rfl rfl ?_
   refine wl_nil (q_n (k113 _ _ ?_))
   refine sx_retc ?_
   refine sx_ret2 Try.results29 ⟨_, rfl, gw115.loadA (vs := [.bool ((rDec ((rDiv ((dRat n1 z1 p1).1) ((dRat n1 z1 p1).2.1) ((dRat n1 z1 p1).2.2.1) ((dRat n2 z2 p2).1) ((dRat n2 z2 p2).2.1) ((dRat n2 z2 p2).2.2.1)).1) ((rDiv ((dRat n1 z1 p1).1) ((dRat n1 z1 p1).2.1) ((dRat n1 z1 p1).2.2.1) ((dRat n2 z2 p2).1) ((dRat n2 z2 p2).2.1) ((dRat n2 z2 p2).2.2.1)).2.1) ((rDiv ((dRat n1 z1 p1).1) ((dRat n1 z1 p1).2.1) ((dRat n1 z1 p1).2.2.1) ((dRat n2 z2 p2).1) ((dRat n2 z2 p2).2.1) ((dRat n2 z2 p2).2.2.1)).2.2.1) q m).1), s114, .int .i64 ((rDec ((rDiv ((dRat n1 z1 p1).1) ((dRat n1 z1 p1).2.1) ((dRat n1 z1 p1).2.2.1) ((dRat n2 z2 p2).1) ((dRat n2 z2 p2).2.1) ((dRat n2 z2 p2).2.2.1)).1) ((rDiv ((dRat n1 z1 p1).1) ((dRat n1 z1 p1).2.1) ((dRat n1 z1 p1).2.2.1) ((dRat n2 z2 p2).1) ((dRat n2 z2 p2).2.1) ((dRat n2 z2 p2).2.2.1)).2.1) ((rDiv ((dRat n1 z1 p1).1) ((dRat n1 z1 p1).2.1) ((dRat n1 z1 p1).2.2.1) ((dRat n2 z2 p2).1) ((dRat n2 z2 p2).2.1) ((dRat n2 z2 p2).2.2.1)).2.2.1) q m).2.2.1)]) (look_lit rfl) Try.isAgg30 Try.sizeOf30⟩ rfl ?_
   have hrl := dDiv_len (n1 := n1) (z1 := z1) (p1 := p1) (n2 := n2) (z2 := z2) (p2 := p2) (q := q) (m := m)
   unfold dDiv at hrl ⊢
   rw [if_pos (bnot_f h154)] at hrl ⊢
   have q118 := Chg.step (l := 0) (h := 0) (Chg.zero (l := 0) (h := 0) ((((cb2.t cb4).t cb6).t cw'9).t c114)) cw115 (by omega)
   have f119 := os_114.chg cw115 (by omega)
   exact ⟨_, rfl, (Own.mono f119 (by omega) (by omega)), hrl, q118⟩

theorem c_iDecRat {w : World} {n1 : Bool} {v1 : Value} {lv1 uv1 : Nat} {z1 : List Int} {p1 : Int} (hv1 : Sl w lv1 uv1 v1 (z1)) (h63 : z1.length ≤ 4611686018427387904) :
  Ret Try.prog 72 [.agg #[.bool n1, v1, .int .i64 p1]] w fun v w' => ∃ s t ls us lt ut, v = .agg #[.bool ((dRat n1 z1 p1).1), s, t] ∧ OwnI w' (ls) (us) s intT ((dRat n1 z1 p1).2.1) ∧ OwnI w' (lt) (ut) t intT ((dRat n1 z1 p1).2.2.1) ∧ (w.heap.size ≤ ls ∧ us ≤ w'.heap.size ∧ w.heap.size ≤ lt ∧ ut ≤ w'.heap.size ∧ (us ≤ lt ∨ ut ≤ ls)) ∧ ((dRat n1 z1 p1).2.1.length ≤ 18 ∧ (dRat n1 z1 p1).2.2.1.length ≤ 18) ∧ Chg 0 0 w w' := by
 have hv10 := hv1.fit
 refine sx_enter Try.func72 rfl Try.ntmps72 (Nat.le_of_ble_eq_true rfl) ?_
 refine sx_seq fun K1 k1 => sx_region ?_
 refine sx_box [.bool n1, v1, .int .i64 p1] rfl rfl rfl (fun b2 w3 eb2 sb2 fb2 cb2 => ?_)
 have zw3 := cb2.size
 refine sx_alloc [.bool false, (.slice none 0 0), (.slice none 0 0)] rfl Try.zeroValue44 rfl (fun b4 w5 eb4 sb4 fb4 cb4 => ?_)
 have zw5 := cb4.size
 refine wl_nil (q_n (k1 _ _ ?_))
 refine sx_seq fun K6 k6 => ?_
 refine sx_seq fun K7 k7 => sx_region ?_
 have f8 := fb2.ext cb4
 refine sx_pure rfl rfl rfl (px_load rfl (f8.loadA (vs := [.bool n1, v1, .int .i64 p1]) (look_lit rfl) Try.isAgg30 Try.sizeOf30)) ?_
 have f9 := hv10.ext cb2
 have f10 := f9.ext cb4
 refine sx_call rfl rfl Try.call39 (c_iDecOk f10 (by omega)) (fun v11 w11 p11 => ?_)
 obtain ⟨rfl, c11⟩ := p11
 have zw11 := c11.size
 refine sx_pure rfl rfl rfl (px_notP rfl) ?_
 refine wl_nil (q_n (k7 _ _ ?_))
 refine sx_condP rfl (fun h30 => ?_) (fun h30 => ?_)
 ·
  refine sx_seq fun K12 k12 => sx_region ?_
  refine sx_pure rfl rfl rfl (px_build rfl (xbld44x  _)) ?_
  have f14 := fb4.ext c11
  refine sx_store (vs := [.bool false, (.slice none 0 0), (.slice none 0 0)]) rfl rfl f14 rfl Try.sizeOf44 (Nat.le_of_ble_eq_true rfl) (one_cons rfl (one_cons rfl (one_cons rfl one_nil))) (fun w13 sw13 fw13 cw13 => ?_)
  have zw13 := cw13.size
  have gw13 : Blk w13 b4 [.bool false, (.slice none 0 0), (.slice none 0 0)] 44 := fw13
  refine wl_nil (q_n (k12 _ _ ?_))
  refine sx_retc ?_
  refine q_r (sx_ret1 Try.results72 ⟨_, rfl, gw13.loadA (vs := [.bool false, (.slice none 0 0), (.slice none 0 0)]) (look_lit rfl) Try.isAgg44 Try.sizeOf44⟩ ?_)
  rw [dRat_no h30]
  have q15 := Chg.step (l := 0) (h := 0) (Chg.zero (l := 0) (h := 0) ((cb2.t cb4).t c11)) cw13 (by omega)
  exact ⟨_, _, w.heap.size, w.heap.size, w.heap.size, w.heap.size, rfl, Own.nil _ _ _ _ _, Own.nil _ _ _ _ _, by omega, ⟨by simp [noR], by simp [noR]⟩, q15⟩
 ·
  have hD := Decidable.not_not.1 h30
  obtain ⟨x1, rfl, rfl, hx1⟩ := hD.int
  have ltn := ten_len' (k := p1) (by omega)
  refine sx_skip ?_
  refine q_n (k6 _ _ ?_)
  refine sx_seq fun K16 k16 => ?_
  refine sx_cut k16 (fun fr w' => ∃ (gb17x0 : Nat) (gs17x1 : Value) (gl17x1 : Nat) (gu17x1 : Nat) (gs17x2 : Value) (gl17x2 : Nat) (gu17x2 : Nat), fr = [(2, .pointer (some ⟨b4, 0, none⟩)), (3, .pointer (some ⟨gb17x0, 0, none⟩))] ∧ Chg 0 0 w11 w' ∧ (Blk w' gb17x0 [.bool ((rR (sgI (ng x1) x1.natAbs) (10 ^ (p1).toNat)).1), gs17x1, gs17x2] 44) ∧ (Own w' gl17x1 gu17x1 gs17x1 intT (((rR (sgI (ng x1) x1.natAbs) (10 ^ (p1).toNat)).2.1).length) 1 (((rR (sgI (ng x1) x1.natAbs) (10 ^ (p1).toNat)).2.1).map (Value.int .i64))) ∧ (Own w' gl17x2 gu17x2 gs17x2 intT (((rR (sgI (ng x1) x1.natAbs) (10 ^ (p1).toNat)).2.2.1).length) 1 (((rR (sgI (ng x1) x1.natAbs) (10 ^ (p1).toNat)).2.2.1).map (Value.int .i64))) ∧ (w11.heap.size ≤ gb17x0 ∧ gb17x0 + 1 ≤ w'.heap.size) ∧ (w11.heap.size ≤ gl17x1 ∧ gu17x1 ≤ w'.heap.size) ∧ (w11.heap.size ≤ gl17x2 ∧ gu17x2 ≤ w'.heap.size) ∧ (gu17x1 ≤ gb17x0 ∨ gb17x0 + 1 ≤ gl17x1) ∧ (gu17x2 ≤ gb17x0 ∨ gb17x0 + 1 ≤ gl17x2) ∧ (gu17x2 ≤ gl17x1 ∨ gu17x1 ≤ gl17x2)) (fun kc17 => ?_) ?_
  ·
   have f18 := f8.ext c11
   have f19 := fb4.ext c11
   have f20 := f10.ext c11
   refine dx_region (fun w' => Chg 0 0 w11 w') (by kernel_rfl) (Chg.zero (Chg.drew _)) ?_
   have d21 := Chg.drew w11
   have s21 : Chg 0 0 w11 (World.drew w11) := Chg.zero (Chg.drew _)
   have y21 : (World.drew w11).heap.size = w11.heap.size := rfl
   generalize World.drew w11 = w21 at *
   have zw21 := d21.size
   refine dx_take 0 rfl rfl rfl rfl (by kernel_rfl) (by kernel_rfl) (by kernel_rfl) s21 (fun _ hS => px_field rfl xfld30x0) ?_
   refine dx_take 1 rfl rfl rfl rfl (by kernel_rfl) (by kernel_rfl) (by kernel_rfl) s21 (fun _ hS => px_load rfl ((f18.chg hS (by omega)).loadA (vs := [.bool (ng x1), v1]) (look_lit rfl) Try.isAgg28 Try.sizeOf28)) ?_
   refine dx_take 2 rfl rfl rfl rfl (by kernel_rfl) (by kernel_rfl) (by kernel_rfl) s21 (fun _ hS => px_field rfl xfld30x1) ?_
   refine dx_take 3 rfl rfl rfl rfl (by kernel_rfl) (by kernel_rfl) (by kernel_rfl) s21 (fun _ hS => px_load rfl ((f18.chg hS (by omega)).load1 rfl Try.isAgg3)) ?_
   refine dx_eff2 4 9 rfl rfl (by kernel_rfl) ?_ ?_
   ·
    refine sx_call rfl rfl Try.call44 (c_natTen (by omega)) (fun v22 w22 p22 => ?_)
    obtain ⟨s22, rfl, os_22, c22⟩ := p22
    have zw22 := c22.size
    have s23 : Chg 0 0 w11 w22 := (d21.t c22)
    refine wl_nil ?_
    refine dx_next s23 ?_
    refine dx_eff2 5 9 rfl rfl (by kernel_rfl) ?_ ?_
    ·
     have f24 := f20.ext d21
     have f25 := f24.ext c22
     refine sx_call rfl rfl Try.call110 (c_reduce f25 os_22.sv (by omega) (by omega) (Nat.pow_pos (by decide))) (fun v26 w26 p26 => ?_)
     obtain ⟨s26, t26, ls26, us26, lt26, ut26, rfl, os_26, ot_26, hd26, hl26, c26⟩ := p26
     have zw26 := c26.size
     have s27 : Chg 0 0 w11 w26 := ((d21.t c22).t c26)
     refine wl_nil ?_
     refine dx_next s27 ?_
     refine dx_take 6 rfl rfl rfl rfl (by kernel_rfl) (by kernel_rfl) (by kernel_rfl) s27 (fun _ hS => px_move rfl) ?_
     refine dx_take 7 rfl rfl rfl rfl (by kernel_rfl) (by kernel_rfl) (by kernel_rfl) s27 (fun _ hS => px_extract (vs := [.agg #[.bool ((rR (sgI (ng x1) x1.natAbs) (10 ^ (p1).toNat)).1), s26, t26], .bool ((rR (sgI (ng x1) x1.natAbs) (10 ^ (p1).toNat)).2.2.2)]) rfl rfl) ?_
     refine dx_take 8 rfl rfl rfl rfl (by kernel_rfl) (by kernel_rfl) (by kernel_rfl) s27 (fun _ hS => px_extract (vs := [.agg #[.bool ((rR (sgI (ng x1) x1.natAbs) (10 ^ (p1).toNat)).1), s26, t26], .bool ((rR (sgI (ng x1) x1.natAbs) (10 ^ (p1).toNat)).2.2.2)]) rfl rfl) ?_
     refine dx_eff 9 rfl (by kernel_rfl) ?_
     refine sx_alloc [.bool false, (.slice none 0 0), (.slice none 0 0)] rfl Try.zeroValue44 rfl (fun b28 w29 eb28 sb28 fb28 cb28 => ?_)
     have zw29 := cb28.size
     have s30 : Chg 0 0 w11 w29 := (((d21.t c22).t c26).t cb28)
     refine wl_nil ?_
     refine dx_next s30 ?_
     refine dx_eff 10 rfl (by kernel_rfl) ?_
     have f32 := ot_26.ext cb28
     have f33 := os_26.ext cb28
     refine sx_store (vs := [.bool ((rR (sgI (ng x1) x1.natAbs) (10 ^ (p1).toNat)).1), s26, t26]) rfl rfl fb28 rfl Try.sizeOf44 (Nat.le_of_ble_eq_true rfl) (one_cons rfl (one_cons f33.one (one_cons f32.one one_nil))) (fun w31 sw31 fw31 cw31 => ?_)
     have zw31 := cw31.size
     have gw31 : Blk w31 b28 [.bool ((rR (sgI (ng x1) x1.natAbs) (10 ^ (p1).toNat)).1), s26, t26] 44 := fw31
     have q35 := Chg.step (l := 0) (h := 0) (Chg.zero (l := 0) (h := 0) (((d21.t c22).t c26).t cb28)) cw31 (by omega)
     have s34 : Chg 0 0 w11 w31 := q35
     refine wl_nil ?_
     refine dx_next s34 ?_
     refine dx_take 11 rfl rfl rfl rfl (by kernel_rfl) (by kernel_rfl) (by kernel_rfl) s34 (fun _ hS => px_assign rfl) ?_
     refine dx_done (by kernel_rfl) ?_
     have f36 := f33.chg cw31 (by omega)
     have f37 := f32.chg cw31 (by omega)
     have q38 := Chg.step (l := 0) (h := 0) (Chg.zero (l := 0) (h := 0) (((d21.t c22).t c26).t cb28)) cw31 (by omega)
     exact q_n (kw_sub (Sub.cons (t := 2) rfl (.cons (t := 3) rfl (.nil))) (kc17 _ _ ⟨b28, s26, ls26, us26, t26, lt26, ut26, rfl, q38, gw31, f36, f37, by omega, by omega, by omega, by omega, by omega, by omega⟩))
    ·
     refine sx_alloc [.bool false, (.slice none 0 0), (.slice none 0 0)] rfl Try.zeroValue44 rfl (fun b39 w40 eb39 sb39 fb39 cb39 => ?_)
     have zw40 := cb39.size
     have s41 : Chg 0 0 w11 w40 := ((d21.t c22).t cb39)
     refine wl_nil ?_
     refine dx_next s41 ?_
     refine dx_eff 5 rfl (by kernel_rfl) ?_
     have f42 := f20.ext d21
     have f43 := f42.ext c22
     have f44 := f43.ext cb39
     have f45 := os_22.ext cb39
     refine sx_call rfl rfl Try.call110 (c_reduce f44 f45.sv (by omega) (by omega) (Nat.pow_pos (by decide))) (fun v46 w46 p46 => ?_)
     obtain ⟨s46, t46, ls46, us46, lt46, ut46, rfl, os_46, ot_46, hd46, hl46, c46⟩ := p46
     have zw46 := c46.size
     have s47 : Chg 0 0 w11 w46 := (((d21.t c22).t cb39).t c46)
     refine wl_nil ?_
     refine dx_next s47 ?_
     refine dx_take 6 rfl rfl rfl rfl (by kernel_rfl) (by kernel_rfl) (by kernel_rfl) s47 (fun _ hS => px_move rfl) ?_
     refine dx_take 7 rfl rfl rfl rfl (by kernel_rfl) (by kernel_rfl) (by kernel_rfl) s47 (fun _ hS => px_extract (vs := [.agg #[.bool ((rR (sgI (ng x1) x1.natAbs) (10 ^ (p1).toNat)).1), s46, t46], .bool ((rR (sgI (ng x1) x1.natAbs) (10 ^ (p1).toNat)).2.2.2)]) rfl rfl) ?_
     refine dx_take 8 rfl rfl rfl rfl (by kernel_rfl) (by kernel_rfl) (by kernel_rfl) s47 (fun _ hS => px_extract (vs := [.agg #[.bool ((rR (sgI (ng x1) x1.natAbs) (10 ^ (p1).toNat)).1), s46, t46], .bool ((rR (sgI (ng x1) x1.natAbs) (10 ^ (p1).toNat)).2.2.2)]) rfl rfl) ?_
     refine dx_eff 10 rfl (by kernel_rfl) ?_
     have f49 := fb39.ext c46
     refine sx_store (vs := [.bool ((rR (sgI (ng x1) x1.natAbs) (10 ^ (p1).toNat)).1), s46, t46]) rfl rfl f49 rfl Try.sizeOf44 (Nat.le_of_ble_eq_true rfl) (one_cons rfl (one_cons os_46.one (one_cons ot_46.one one_nil))) (fun w48 sw48 fw48 cw48 => ?_)
     have zw48 := cw48.size
     have gw48 : Blk w48 b39 [.bool ((rR (sgI (ng x1) x1.natAbs) (10 ^ (p1).toNat)).1), s46, t46] 44 := fw48
     have q51 := Chg.step (l := 0) (h := 0) (Chg.zero (l := 0) (h := 0) (((d21.t c22).t cb39).t c46)) cw48 (by omega)
     have s50 : Chg 0 0 w11 w48 := q51
     refine wl_nil ?_
     refine dx_next s50 ?_
     refine dx_take 11 rfl rfl rfl rfl (by kernel_rfl) (by kernel_rfl) (by kernel_rfl) s50 (fun _ hS => px_assign rfl) ?_
     refine dx_done (by kernel_rfl) ?_
     have f52 := os_46.chg cw48 (by omega)
     have f53 := ot_46.chg cw48 (by omega)
     have q54 := Chg.step (l := 0) (h := 0) (Chg.zero (l := 0) (h := 0) (((d21.t c22).t cb39).t c46)) cw48 (by omega)
     exact q_n (kw_sub (Sub.cons (t := 2) rfl (.cons (t := 3) rfl (.nil))) (kc17 _ _ ⟨b39, s46, ls46, us46, t46, lt46, ut46, rfl, q54, gw48, f52, f53, by omega, by omega, by omega, by omega, by omega, by omega⟩))
   ·
    refine sx_alloc [.bool false, (.slice none 0 0), (.slice none 0 0)] rfl Try.zeroValue44 rfl (fun b55 w56 eb55 sb55 fb55 cb55 => ?_)
    have zw56 := cb55.size
    have s57 : Chg 0 0 w11 w56 := (d21.t cb55)
    refine wl_nil ?_
    refine dx_next s57 ?_
    refine dx_eff 4 rfl (by kernel_rfl) ?_
    refine sx_call rfl rfl Try.call44 (c_natTen (by omega)) (fun v58 w58 p58 => ?_)
    obtain ⟨s58, rfl, os_58, c58⟩ := p58
    have zw58 := c58.size
    have s59 : Chg 0 0 w11 w58 := ((d21.t cb55).t c58)
    refine wl_nil ?_
    refine dx_next s59 ?_
    refine dx_eff 5 rfl (by kernel_rfl) ?_
    have f60 := f20.ext d21
    have f61 := f60.ext cb55
    have f62 := f61.ext c58
    refine sx_call rfl rfl Try.call110 (c_reduce f62 os_58.sv (by omega) (by omega) (Nat.pow_pos (by decide))) (fun v63 w63 p63 => ?_)
    obtain ⟨s63, t63, ls63, us63, lt63, ut63, rfl, os_63, ot_63, hd63, hl63, c63⟩ := p63
    have zw63 := c63.size
    have s64 : Chg 0 0 w11 w63 := (((d21.t cb55).t c58).t c63)
    refine wl_nil ?_
    refine dx_next s64 ?_
    refine dx_take 6 rfl rfl rfl rfl (by kernel_rfl) (by kernel_rfl) (by kernel_rfl) s64 (fun _ hS => px_move rfl) ?_
    refine dx_take 7 rfl rfl rfl rfl (by kernel_rfl) (by kernel_rfl) (by kernel_rfl) s64 (fun _ hS => px_extract (vs := [.agg #[.bool ((rR (sgI (ng x1) x1.natAbs) (10 ^ (p1).toNat)).1), s63, t63], .bool ((rR (sgI (ng x1) x1.natAbs) (10 ^ (p1).toNat)).2.2.2)]) rfl rfl) ?_
    refine dx_take 8 rfl rfl rfl rfl (by kernel_rfl) (by kernel_rfl) (by kernel_rfl) s64 (fun _ hS => px_extract (vs := [.agg #[.bool ((rR (sgI (ng x1) x1.natAbs) (10 ^ (p1).toNat)).1), s63, t63], .bool ((rR (sgI (ng x1) x1.natAbs) (10 ^ (p1).toNat)).2.2.2)]) rfl rfl) ?_
    refine dx_eff 10 rfl (by kernel_rfl) ?_
    have f66 := fb55.ext c58
    have f67 := f66.ext c63
    refine sx_store (vs := [.bool ((rR (sgI (ng x1) x1.natAbs) (10 ^ (p1).toNat)).1), s63, t63]) rfl rfl f67 rfl Try.sizeOf44 (Nat.le_of_ble_eq_true rfl) (one_cons rfl (one_cons os_63.one (one_cons ot_63.one one_nil))) (fun w65 sw65 fw65 cw65 => ?_)
    have zw65 := cw65.size
    have gw65 : Blk w65 b55 [.bool ((rR (sgI (ng x1) x1.natAbs) (10 ^ (p1).toNat)).1), s63, t63] 44 := fw65
    have q69 := Chg.step (l := 0) (h := 0) (Chg.zero (l := 0) (h := 0) (((d21.t cb55).t c58).t c63)) cw65 (by omega)
    have s68 : Chg 0 0 w11 w65 := q69
    refine wl_nil ?_
    refine dx_next s68 ?_
    refine dx_take 11 rfl rfl rfl rfl (by kernel_rfl) (by kernel_rfl) (by kernel_rfl) s68 (fun _ hS => px_assign rfl) ?_
    refine dx_done (by kernel_rfl) ?_
    have f70 := os_63.chg cw65 (by omega)
    have f71 := ot_63.chg cw65 (by omega)
    have q72 := Chg.step (l := 0) (h := 0) (Chg.zero (l := 0) (h := 0) (((d21.t cb55).t c58).t c63)) cw65 (by omega)
    exact q_n (kw_sub (Sub.cons (t := 2) rfl (.cons (t := 3) rfl (.nil))) (kc17 _ _ ⟨b55, s63, ls63, us63, t63, lt63, ut63, rfl, q72, gw65, f70, f71, by omega, by omega, by omega, by omega, by omega, by omega⟩))
  ·
   rintro fr w'17 ⟨gb17x0, gs17x1, gl17x1, gu17x1, gs17x2, gl17x2, gu17x2, rfl, cw'17, xgb17x0, xgs17x1, xgs17x2, ygb17x0, ygl17x1, ygl17x2, dgl17x1xgb17x0, dgl17x2xgb17x0, dgl17x2xgl17x1⟩
   have zw'17 := cw'17.size
   refine sx_seq fun K73 k73 => sx_region ?_
   refine sx_pure rfl rfl rfl (px_load rfl (xgb17x0.loadA (vs := [.bool ((rR (sgI (ng x1) x1.natAbs) (10 ^ (p1).toNat)).1), gs17x1, gs17x2]) (look_lit rfl) Try.isAgg44 Try.sizeOf44)) ?_
   have f75 := fb4.ext c11
   have f76 := f75.ext cw'17
   refine sx_store (vs := [.bool ((rR (sgI (ng x1) x1.natAbs) (10 ^ (p1).toNat)).1), gs17x1, gs17x2]) rfl rfl f76 rfl Try.sizeOf44 (Nat.le_of_ble_eq_true rfl) (one_cons rfl (one_cons xgs17x1.one (one_cons xgs17x2.one one_nil))) (fun w74 sw74 fw74 cw74 => ?_)
   have zw74 := cw74.size
   have gw74 : Blk w74 b4 [.bool ((rR (sgI (ng x1) x1.natAbs) (10 ^ (p1).toNat)).1), gs17x1, gs17x2] 44 := fw74
   refine wl_nil (q_n (k73 _ _ ?_))
   refine sx_retc ?_
   refine sx_ret1 Try.results72 ⟨_, rfl, gw74.loadA (vs := [.bool ((rR (sgI (ng x1) x1.natAbs) (10 ^ (p1).toNat)).1), gs17x1, gs17x2]) (look_lit rfl) Try.isAgg44 Try.sizeOf44⟩ ?_
   have hrl := dRat_len (n := ng x1) (z := dg x1.natAbs) (p := p1)
   rw [dRat_ok hD] at hrl ⊢
   have q77 := Chg.step (l := 0) (h := 0) (Chg.zero (l := 0) (h := 0) (((cb2.t cb4).t c11).t cw'17)) cw74 (by omega)
   have f78 := xgs17x1.chg cw74 (by omega)
   have f79 := xgs17x2.chg cw74 (by omega)
   exact ⟨_, _, _, _, _, _, rfl, f78, f79, by omega, hrl, q77⟩

theorem c_iRatDiv {w : World} {n1 : Bool} {v1 : Value} {lv1 uv1 : Nat} {z1 : List Int} {d1 : Value} {ld1 ud1 : Nat} {y1 : List Int} {n2 : Bool} {v2 : Value} {lv2 uv2 : Nat} {z2 : List Int} {d2 : Value} {ld2 ud2 : Nat} {y2 : List Int} (hv1 : Sl w lv1 uv1 v1 (z1)) (hd1 : Sl w ld1 ud1 d1 (y1)) (hv2 : Sl w lv2 uv2 v2 (z2)) (hd2 : Sl w ld2 ud2 d2 (y2)) (h63 : z1.length ≤ 4611686018427387904 ∧ y1.length ≤ 4611686018427387904 ∧ z2.length ≤ 4611686018427387904 ∧ y2.length ≤ 4611686018427387904) :
  Ret Try.prog 71 [.agg #[.bool n1, v1, d1], .agg #[.bool n2, v2, d2]] w fun v w' => ∃ s t ls us lt ut, v = .tuple #[.agg #[.bool ((rDiv n1 z1 y1 n2 z2 y2).1), s, t], .bool ((rDiv n1 z1 y1 n2 z2 y2).2.2.2)] ∧ OwnI w' (ls) (us) s intT ((rDiv n1 z1 y1 n2 z2 y2).2.1) ∧ OwnI w' (lt) (ut) t intT ((rDiv n1 z1 y1 n2 z2 y2).2.2.1) ∧ (w.heap.size ≤ ls ∧ us ≤ w'.heap.size ∧ w.heap.size ≤ lt ∧ ut ≤ w'.heap.size ∧ (us ≤ lt ∨ ut ≤ ls)) ∧ ((rDiv n1 z1 y1 n2 z2 y2).2.1.length ≤ 18 ∧ (rDiv n1 z1 y1 n2 z2 y2).2.2.1.length ≤ 18) ∧ Chg 0 0 w w' := by
 have hv10 := hv1.fit
 have hd10 := hd1.fit
 have hv20 := hv2.fit
 have hd20 := hd2.fit
 refine sx_enter Try.func71 rfl Try.ntmps71 (Nat.le_of_ble_eq_true rfl) ?_
 refine sx_seq fun K1 k1 => sx_region ?_
 refine sx_box [.bool n1, v1, d1] rfl rfl rfl (fun b2 w3 eb2 sb2 fb2 cb2 => ?_)
 have zw3 := cb2.size
 refine sx_box [.bool n2, v2, d2] rfl rfl rfl (fun b4 w5 eb4 sb4 fb4 cb4 => ?_)
 have zw5 := cb4.size
 refine sx_alloc [.bool false, (.slice none 0 0), (.slice none 0 0)] rfl Try.zeroValue44 rfl (fun b6 w7 eb6 sb6 fb6 cb6 => ?_)
 have zw7 := cb6.size
 refine sa rfl rfl rfl rfl ?_
 refine wl_nil (q_n (k1 _ _ ?_))
 refine sx_seq fun K8 k8 => ?_
 refine sx_seq fun K9 k9 => sx_region ?_
 have f10 := fb2.ext cb4
 have f11 := f10.ext cb6
 refine sx_pure rfl rfl rfl (px_load rfl (f11.loadA (vs := [.bool n1, v1, d1]) (look_lit rfl) Try.isAgg44 Try.sizeOf44)) ?_
 have f12 := fb4.ext cb6
 refine sx_pure rfl rfl rfl (px_load rfl (f12.loadA (vs := [.bool n2, v2, d2]) (look_lit rfl) Try.isAgg44 Try.sizeOf44)) ?_
 have f13 := hv10.ext cb2
 have f14 := f13.ext cb4
 have f15 := f14.ext cb6
 have f16 := hd10.ext cb2
 have f17 := f16.ext cb4
 have f18 := f17.ext cb6
 have f19 := hv20.ext cb2
 have f20 := f19.ext cb4
 have f21 := f20.ext cb6
 have f22 := hd20.ext cb2
 have f23 := f22.ext cb4
 have f24 := f23.ext cb6
 refine sx_call rfl rfl Try.call106 (c_ratsOk f15 f18 f21 f24 (by omega)) (fun v25 w25 p25 => ?_)
 obtain ⟨rfl, c25⟩ := p25
 have zw25 := c25.size
 refine sx_pure rfl rfl rfl (px_notP rfl) ?_
 refine sm rfl rfl rfl rfl ?_
 refine sx_tmpP (t := 10) rfl (fun h82 => ?_) (fun h82 => ?_)
 ·
  refine sx_guardF rfl rfl rfl rfl rfl rfl ?_
  refine sx_guardF rfl rfl rfl rfl rfl rfl ?_
  refine sx_guardF rfl rfl rfl rfl rfl rfl ?_
  refine sx_guardF rfl rfl rfl rfl rfl rfl ?_
  refine sx_guardF rfl rfl rfl rfl rfl rfl ?_
  refine sx_pure rfl rfl rfl (px_pick rfl rfl) ?_
  refine wl_nil (q_n (k9 _ _ ?_))
  refine sx_sub (Sub.cons (t := 2) rfl (.cons (t := 3) rfl (.cons (t := 4) rfl (.cons (t := 5) rfl (.cons (t := 16) rfl (.nil)))))) ?_
  refine sx_condT rfl ?_
  refine sx_seq fun K26 k26 => sx_region ?_
  refine sx_pure rfl rfl rfl (px_build rfl (xbld44x  _)) ?_
  have f28 := fb6.ext c25
  refine sx_store (vs := [.bool false, (.slice none 0 0), (.slice none 0 0)]) rfl rfl f28 rfl Try.sizeOf44 (Nat.le_of_ble_eq_true rfl) (one_cons rfl (one_cons rfl (one_cons rfl one_nil))) (fun w27 sw27 fw27 cw27 => ?_)
  have zw27 := cw27.size
  have gw27 : Blk w27 b6 [.bool false, (.slice none 0 0), (.slice none 0 0)] 44 := fw27
  refine sa rfl rfl rfl rfl ?_
  refine wl_nil (q_n (k26 _ _ ?_))
  refine sx_retc ?_
  refine q_r (sx_ret2 Try.results71 ⟨_, rfl, gw27.loadA (vs := [.bool false, (.slice none 0 0), (.slice none 0 0)]) (look_lit rfl) Try.isAgg44 Try.sizeOf44⟩ rfl ?_)
  first | rw [rDiv_no (by assumption)] | rw [rDiv_ok hR1 hR2, rR_zero (by rw [len_zero.1 (show (dg x2.natAbs).length = 0 by omega), Nat.mul_zero])]
  have q29 := Chg.step (l := 0) (h := 0) (Chg.zero (l := 0) (h := 0) (((cb2.t cb4).t cb6).t c25)) cw27 (by omega)
  exact ⟨_, _, w.heap.size, w.heap.size, w.heap.size, w.heap.size, rfl, Own.nil _ _ _ _ _, Own.nil _ _ _ _ _, by omega, ⟨by simp [noR], by simp [noR]⟩, q29⟩
 ·
  have hR1 := (Decidable.not_not.1 h82).1
  have hR2 := (Decidable.not_not.1 h82).2
  obtain ⟨x1, e1, rfl, rfl, rfl, hp1, hx1, hy1, hg1⟩ := hR1.rat
  obtain ⟨x2, e2, rfl, rfl, rfl, hp2, hx2, hy2, hg2⟩ := hR2.rat
  have l1 := len_mul x1.natAbs e2
  have l2 := len_mul x2.natAbs e1
  have l3 := len_mul e1 e2
  have a1 : (x1 * (e2 : Int)).natAbs = x1.natAbs * e2 := by rw [Int.natAbs_mul, Int.natAbs_natCast]
  have a2 : (x2 * (e1 : Int)).natAbs = x2.natAbs * e1 := by rw [Int.natAbs_mul, Int.natAbs_natCast]
  have l4 := len_addI (x1 * (e2 : Int)) (x2 * (e1 : Int))
  rw [a1, a2] at l4
  have l5 := len_mul e1 x2.natAbs
  have l6 := len_mul x1.natAbs x2.natAbs
  refine sx_guardT rfl rfl rfl ?_
  refine sx_pure rfl rfl rfl (px_field rfl xfld44x0) ?_
  refine sx_guardT rfl rfl rfl ?_
  refine sx_pure rfl rfl rfl (px_field rfl xfld28x1) ?_
  refine sx_guardT rfl rfl rfl ?_
  have f30 := f12.ext c25
  refine sx_pure rfl rfl rfl (px_load rfl (f30.load1 rfl Try.isAgg22)) ?_
  refine sx_guardT rfl rfl rfl ?_
  have f31 := f21.ext c25
  refine sx_pure rfl rfl rfl (px_len rfl Try.underlying22 f31) ?_
  refine sx_guardT rfl rfl rfl ?_
  refine sx_pure rfl rfl rfl (px_eq rfl rfl) ?_
  refine sx_pure rfl rfl rfl (px_pick rfl rfl) ?_
  refine wl_nil (q_n (k9 _ _ ?_))
  refine sx_sub (Sub.cons (t := 2) rfl (.cons (t := 3) rfl (.cons (t := 4) rfl (.cons (t := 5) rfl (.cons (t := 16) rfl (.nil)))))) ?_
  refine sx_condP rfl (fun h82x1 => ?_) (fun h82x1 => ?_)
  ·
   refine sx_seq fun K32 k32 => sx_region ?_
   refine sx_pure rfl rfl rfl (px_build rfl (xbld44x  _)) ?_
   have f34 := fb6.ext c25
   refine sx_store (vs := [.bool false, (.slice none 0 0), (.slice none 0 0)]) rfl rfl f34 rfl Try.sizeOf44 (Nat.le_of_ble_eq_true rfl) (one_cons rfl (one_cons rfl (one_cons rfl one_nil))) (fun w33 sw33 fw33 cw33 => ?_)
   have zw33 := cw33.size
   have gw33 : Blk w33 b6 [.bool false, (.slice none 0 0), (.slice none 0 0)] 44 := fw33
   refine sa rfl rfl rfl rfl ?_
   refine wl_nil (q_n (k32 _ _ ?_))
   refine sx_retc ?_
   refine q_r (sx_ret2 Try.results71 ⟨_, rfl, gw33.loadA (vs := [.bool false, (.slice none 0 0), (.slice none 0 0)]) (look_lit rfl) Try.isAgg44 Try.sizeOf44⟩ rfl ?_)
   first | rw [rDiv_no (by assumption)] | rw [rDiv_ok hR1 hR2, rR_zero (by rw [len_zero.1 (show (dg x2.natAbs).length = 0 by omega), Nat.mul_zero])]
   have q35 := Chg.step (l := 0) (h := 0) (Chg.zero (l := 0) (h := 0) (((cb2.t cb4).t cb6).t c25)) cw33 (by omega)
   exact ⟨_, _, w.heap.size, w.heap.size, w.heap.size, w.heap.size, rfl, Own.nil _ _ _ _ _, Own.nil _ _ _ _ _, by omega, ⟨by simp [noR], by simp [noR]⟩, q35⟩
  ·
   refine sx_skip ?_
   refine q_n (k8 _ _ ?_)
   refine sx_seq fun K36 k36 => ?_
   have f37 := f11.ext c25
   have f38 := f15.ext c25
   have f39 := f18.ext c25
   have f40 := f24.ext c25
   refine dx_region (fun w' => Chg b6 (b6 + 1) w25 w') (by kernel_rfl) (Chg.zero (Chg.drew _)) ?_
   have d41 := Chg.drew w25
   have s41 : Chg b6 (b6 + 1) w25 (World.drew w25) := Chg.zero (Chg.drew _)
   have y41 : (World.drew w25).heap.size = w25.heap.size := rfl
   generalize World.drew w25 = w41 at *
   have zw41 := d41.size
   refine dx_take 0 rfl rfl rfl rfl (by kernel_rfl) (by kernel_rfl) (by kernel_rfl) s41 (fun _ hS => px_field rfl xfld44x0) ?_
   refine dx_take 1 rfl rfl rfl rfl (by kernel_rfl) (by kernel_rfl) (by kernel_rfl) s41 (fun _ hS => px_field rfl xfld28x0) ?_
   refine dx_take 2 rfl rfl rfl rfl (by kernel_rfl) (by kernel_rfl) (by kernel_rfl) s41 (fun _ hS => px_load rfl ((f37.chg hS (by omega)).load1 rfl Try.isAgg4)) ?_
   refine dx_take 3 rfl rfl rfl rfl (by kernel_rfl) (by kernel_rfl) (by kernel_rfl) s41 (fun _ hS => px_field rfl xfld44x0) ?_
   refine dx_take 4 rfl rfl rfl rfl (by kernel_rfl) (by kernel_rfl) (by kernel_rfl) s41 (fun _ hS => px_field rfl xfld28x0) ?_
   refine dx_take 5 rfl rfl rfl rfl (by kernel_rfl) (by kernel_rfl) (by kernel_rfl) s41 (fun _ hS => px_load rfl ((f30.chg hS (by omega)).load1 rfl Try.isAgg4)) ?_
   refine dx_take 6 rfl rfl rfl rfl (by kernel_rfl) (by kernel_rfl) (by kernel_rfl) s41 (fun _ hS => px_neB Try.underlying4 rfl rfl) ?_
   refine dx_take 7 rfl rfl rfl rfl (by kernel_rfl) (by kernel_rfl) (by kernel_rfl) s41 (fun _ hS => px_field rfl xfld44x0) ?_
   refine dx_take 8 rfl rfl rfl rfl (by kernel_rfl) (by kernel_rfl) (by kernel_rfl) s41 (fun _ hS => px_field rfl xfld28x1) ?_
   refine dx_take 9 rfl rfl rfl rfl (by kernel_rfl) (by kernel_rfl) (by kernel_rfl) s41 (fun _ hS => px_load rfl ((f37.chg hS (by omega)).load1 rfl Try.isAgg22)) ?_
   refine dx_take 10 rfl rfl rfl rfl (by kernel_rfl) (by kernel_rfl) (by kernel_rfl) s41 (fun _ hS => px_field rfl xfld44x1) ?_
   refine dx_take 11 rfl rfl rfl rfl (by kernel_rfl) (by kernel_rfl) (by kernel_rfl) s41 (fun _ hS => px_load rfl ((f30.chg hS (by omega)).load1 rfl Try.isAgg22)) ?_
   refine dx_take 14 rfl rfl rfl rfl (by kernel_rfl) (by kernel_rfl) (by kernel_rfl) s41 (fun _ hS => px_field rfl xfld44x1) ?_
   refine dx_take 15 rfl rfl rfl rfl (by kernel_rfl) (by kernel_rfl) (by kernel_rfl) s41 (fun _ hS => px_load rfl ((f37.chg hS (by omega)).load1 rfl Try.isAgg22)) ?_
   refine dx_take 16 rfl rfl rfl rfl (by kernel_rfl) (by kernel_rfl) (by kernel_rfl) s41 (fun _ hS => px_field rfl xfld44x0) ?_
   refine dx_take 17 rfl rfl rfl rfl (by kernel_rfl) (by kernel_rfl) (by kernel_rfl) s41 (fun _ hS => px_field rfl xfld28x1) ?_
   refine dx_take 18 rfl rfl rfl rfl (by kernel_rfl) (by kernel_rfl) (by kernel_rfl) s41 (fun _ hS => px_load rfl ((f30.chg hS (by omega)).load1 rfl Try.isAgg22)) ?_
   refine dx_eff 12 rfl (by kernel_rfl) ?_
   have f42 := f38.ext d41
   have f43 := f40.ext d41
   refine sx_call rfl rfl Try.call77 (c_natMul f42 f43 (by omega) (by omega)) (fun v44 w44 p44 => ?_)
   obtain ⟨s44, rfl, os_44, c44⟩ := p44
   have zw44 := c44.size
   have s45 : Chg b6 (b6 + 1) w25 w44 := (Chg.zero (l := b6) (h := (b6 + 1)) (d41.t c44))
   refine wl_nil ?_
   refine dx_next s45 ?_
   refine dx_eff 13 rfl (by kernel_rfl) ?_
   refine sx_call rfl rfl Try.call45 (c_signed os_44.sv (by omega)) (fun v46 w46 p46 => ?_)
   obtain ⟨rfl, c46⟩ := p46
   have zw46 := c46.size
   have s47 : Chg b6 (b6 + 1) w25 w46 := (Chg.zero (l := b6) (h := (b6 + 1)) ((d41.t c44).t c46))
   refine wl_nil ?_
   refine dx_next s47 ?_
   refine dx_eff 19 rfl (by kernel_rfl) ?_
   have f48 := f39.ext d41
   have f49 := f48.ext c44
   have f50 := f49.ext c46
   have f51 := f31.ext d41
   have f52 := f51.ext c44
   have f53 := f52.ext c46
   refine sx_call rfl rfl Try.call77 (c_natMul f50 f53 (by omega) (by omega)) (fun v54 w54 p54 => ?_)
   obtain ⟨s54, rfl, os_54, c54⟩ := p54
   have zw54 := c54.size
   have s55 : Chg b6 (b6 + 1) w25 w54 := (Chg.zero (l := b6) (h := (b6 + 1)) (((d41.t c44).t c46).t c54))
   refine wl_nil ?_
   refine dx_next s55 ?_
   refine dx_eff 20 rfl (by kernel_rfl) ?_
   have f56 := os_44.ext c46
   have f57 := f56.ext c54
   refine sx_call rfl rfl Try.call110 (c_reduce f57.sv os_54.sv (by omega) (by omega) (Nat.mul_pos hp1 (len_pos.1 (by omega)))) (fun v58 w58 p58 => ?_)
   obtain ⟨s58, t58, ls58, us58, lt58, ut58, rfl, os_58, ot_58, hd58, hl58, c58⟩ := p58
   have zw58 := c58.size
   have s59 : Chg b6 (b6 + 1) w25 w58 := (Chg.zero (l := b6) (h := (b6 + 1)) ((((d41.t c44).t c46).t c54).t c58))
   refine wl_nil ?_
   refine dx_next s59 ?_
   refine dx_take 21 rfl rfl rfl rfl (by kernel_rfl) (by kernel_rfl) (by kernel_rfl) s59 (fun _ hS => px_extract (vs := [.agg #[.bool ((rR (sgI (nz ((ng x1) != (ng x2)) (dg (x1.natAbs * e2))) (x1.natAbs * e2)) (e1 * x2.natAbs)).1), s58, t58], .bool ((rR (sgI (nz ((ng x1) != (ng x2)) (dg (x1.natAbs * e2))) (x1.natAbs * e2)) (e1 * x2.natAbs)).2.2.2)]) rfl rfl) ?_
   refine dx_take 22 rfl rfl rfl rfl (by kernel_rfl) (by kernel_rfl) (by kernel_rfl) s59 (fun _ hS => px_extract (vs := [.agg #[.bool ((rR (sgI (nz ((ng x1) != (ng x2)) (dg (x1.natAbs * e2))) (x1.natAbs * e2)) (e1 * x2.natAbs)).1), s58, t58], .bool ((rR (sgI (nz ((ng x1) != (ng x2)) (dg (x1.natAbs * e2))) (x1.natAbs * e2)) (e1 * x2.natAbs)).2.2.2)]) rfl rfl) ?_
   refine dx_eff 23 rfl (by kernel_rfl) ?_
   have f61 := fb6.ext c25
   have f62 := f61.ext d41
   have f63 := f62.ext c44
   have f64 := f63.ext c46
   have f65 := f64.ext c54
   have f66 := f65.ext c58
   refine sx_store (vs := [.bool ((rR (sgI (nz ((ng x1) != (ng x2)) (dg (x1.natAbs * e2))) (x1.natAbs * e2)) (e1 * x2.natAbs)).1), s58, t58]) rfl rfl f66 rfl Try.sizeOf44 (Nat.le_of_ble_eq_true rfl) (one_cons rfl (one_cons os_58.one (one_cons ot_58.one one_nil))) (fun w60 sw60 fw60 cw60 => ?_)
   have zw60 := cw60.size
   have gw60 : Blk w60 b6 [.bool ((rR (sgI (nz ((ng x1) != (ng x2)) (dg (x1.natAbs * e2))) (x1.natAbs * e2)) (e1 * x2.natAbs)).1), s58, t58] 44 := fw60
   have q68 := Chg.step (l := b6) (h := (b6 + 1)) (Chg.zero (l := b6) (h := (b6 + 1)) ((((d41.t c44).t c46).t c54).t c58)) cw60 (by omega)
   have s67 : Chg b6 (b6 + 1) w25 w60 := q68
   refine wl_nil ?_
   refine dx_next s67 ?_
   refine dx_take 24 rfl rfl rfl rfl (by kernel_rfl) (by kernel_rfl) (by kernel_rfl) s67 (fun _ hS => px_assign rfl) ?_
   refine dx_done (by kernel_rfl) ?_
   refine q_n (k36 _ _ ?_)
   refine sx_sub (Sub.cons (t := 4) rfl (.cons (t := 5) rfl (.nil))) ?_
   refine sx_retc ?_
   refine sx_ret2 Try.results71 ⟨_, rfl, gw60.loadA (vs := [.bool ((rR (sgI (nz ((ng x1) != (ng x2)) (dg (x1.natAbs * e2))) (x1.natAbs * e2)) (e1 * x2.natAbs)).1), s58, t58]) (look_lit rfl) Try.isAgg44 Try.sizeOf44⟩ rfl ?_
   have hrl := rDiv_len (n1 := ng x1) (z1 := dg x1.natAbs) (y1 := dg e1) (n2 := ng x2) (z2 := dg x2.natAbs) (y2 := dg e2)
   have hre : rDiv (ng x1) (dg x1.natAbs) (dg e1) (ng x2) (dg x2.natAbs) (dg e2) = rR (sgI (nz (ng x1 != ng x2) (dg (x1.natAbs * e2))) (x1.natAbs * e2)) (e1 * x2.natAbs) := by rw [rDiv_ok hR1 hR2, sgI_nz]
   rw [hre] at hrl ⊢
   have q69 := Chg.step (l := 0) (h := 0) (Chg.zero (l := 0) (h := 0) ((((((((cb2.t cb4).t cb6).t c25).t d41).t c44).t c46).t c54).t c58)) cw60 (by omega)
   have f70 := os_58.chg cw60 (by omega)
   have f71 := ot_58.chg cw60 (by omega)
   exact ⟨_, _, _, _, _, _, rfl, f70, f71, by omega, hrl, q69⟩

theorem c_iDecDiv {w : World} {n1 : Bool} {v1 : Value} {lv1 uv1 : Nat} {z1 : List Int} {p1 : Int} {n2 : Bool} {v2 : Value} {lv2 uv2 : Nat} {z2 : List Int} {p2 : Int} {q : Int} {m : Int} (hv1 : Sl w lv1 uv1 v1 (z1)) (hv2 : Sl w lv2 uv2 v2 (z2)) (h63 : z1.length ≤ 4611686018427387904 ∧ z2.length ≤ 4611686018427387904) :
  Ret Try.prog 30 [.agg #[.bool n1, v1, .int .i64 p1], .agg #[.bool n2, v2, .int .i64 p2], .int .i64 q, .int .i64 m] w fun v w' => ∃ s, v = .tuple #[.agg #[.bool ((dDiv n1 z1 p1 n2 z2 p2 q m).1), s, .int .i64 ((dDiv n1 z1 p1 n2 z2 p2 q m).2.2.1)], .bool ((dDiv n1 z1 p1 n2 z2 p2 q m).2.2.2)] ∧ OwnI w' w.heap.size w'.heap.size s intT ((dDiv n1 z1 p1 n2 z2 p2 q m).2.1) ∧ ((dDiv n1 z1 p1 n2 z2 p2 q m).2.1.length ≤ 6) ∧ Chg 0 0 w w' := by
 have hv10 := hv1.fit
 have hv20 := hv2.fit
 refine sx_enter Try.func30 rfl Try.ntmps30 (Nat.le_of_ble_eq_true rfl) ?_
 refine sx_seq fun K1 k1 => sx_region ?_
 refine sx_box [.bool n1, v1, .int .i64 p1] rfl rfl rfl (fun b2 w3 eb2 sb2 fb2 cb2 => ?_)
 have zw3 := cb2.size
 refine sx_box [.bool n2, v2, .int .i64 p2] rfl rfl rfl (fun b4 w5 eb4 sb4 fb4 cb4 => ?_)
 have zw5 := cb4.size
 refine sx_alloc [.bool false, (.slice none 0 0), .int .i64 0] rfl Try.zeroValue30 rfl (fun b6 w7 eb6 sb6 fb6 cb6 => ?_)
 have zw7 := cb6.size
 refine sa rfl rfl rfl rfl ?_
 refine wl_nil (q_n (k1 _ _ ?_))
 refine sx_seq fun K8 k8 => ?_
 refine sx_cut k8 (fun fr w' => ∃ (gb9x0 : Nat) (gs9x1 : Value) (gl9x1 : Nat) (gu9x1 : Nat) (gs9x2 : Value) (gl9x2 : Nat) (gu9x2 : Nat), fr = [(2, .int .i64 q), (3, .int .i64 m), (8, .pointer (some ⟨b6, 0, none⟩)), (9, .bool false), (10, .pointer (some ⟨gb9x0, 0, none⟩)), (11, .bool ((rDiv ((dRat n1 z1 p1).1) ((dRat n1 z1 p1).2.1) ((dRat n1 z1 p1).2.2.1) ((dRat n2 z2 p2).1) ((dRat n2 z2 p2).2.1) ((dRat n2 z2 p2).2.2.1)).2.2.2))] ∧ Chg 0 0 w7 w' ∧ (Blk w' gb9x0 [.bool ((rDiv ((dRat n1 z1 p1).1) ((dRat n1 z1 p1).2.1) ((dRat n1 z1 p1).2.2.1) ((dRat n2 z2 p2).1) ((dRat n2 z2 p2).2.1) ((dRat n2 z2 p2).2.2.1)).1), gs9x1, gs9x2] 44) ∧ (Own w' gl9x1 gu9x1 gs9x1 intT (((rDiv ((dRat n1 z1 p1).1) ((dRat n1 z1 p1).2.1) ((dRat n1 z1 p1).2.2.1) ((dRat n2 z2 p2).1) ((dRat n2 z2 p2).2.1) ((dRat n2 z2 p2).2.2.1)).2.1).length) 1 (((rDiv ((dRat n1 z1 p1).1) ((dRat n1 z1 p1).2.1) ((dRat n1 z1 p1).2.2.1) ((dRat n2 z2 p2).1) ((dRat n2 z2 p2).2.1) ((dRat n2 z2 p2).2.2.1)).2.1).map (Value.int .i64))) ∧ (Own w' gl9x2 gu9x2 gs9x2 intT (((rDiv ((dRat n1 z1 p1).1) ((dRat n1 z1 p1).2.1) ((dRat n1 z1 p1).2.2.1) ((dRat n2 z2 p2).1) ((dRat n2 z2 p2).2.1) ((dRat n2 z2 p2).2.2.1)).2.2.1).length) 1 (((rDiv ((dRat n1 z1 p1).1) ((dRat n1 z1 p1).2.1) ((dRat n1 z1 p1).2.2.1) ((dRat n2 z2 p2).1) ((dRat n2 z2 p2).2.1) ((dRat n2 z2 p2).2.2.1)).2.2.1).map (Value.int .i64))) ∧ (w7.heap.size ≤ gb9x0 ∧ gb9x0 + 1 ≤ w'.heap.size) ∧ (w7.heap.size ≤ gl9x1 ∧ gu9x1 ≤ w'.heap.size) ∧ (w7.heap.size ≤ gl9x2 ∧ gu9x2 ≤ w'.heap.size) ∧ (gu9x1 ≤ gb9x0 ∨ gb9x0 + 1 ≤ gl9x1) ∧ (gu9x2 ≤ gb9x0 ∨ gb9x0 + 1 ≤ gl9x2) ∧ (gu9x2 ≤ gl9x1 ∨ gu9x1 ≤ gl9x2)) (fun kc9 => ?_) ?_
 ·
  have f10 := fb2.ext cb4
  have f11 := f10.ext cb6
  have f12 := fb4.ext cb6
  have f13 := hv10.ext cb2
  have f14 := f13.ext cb4
  have f15 := f14.ext cb6
  have f16 := hv20.ext cb2
  have f17 := f16.ext cb4
  have f18 := f17.ext cb6
  refine dx_region (fun w' => Chg 0 0 w7 w') (by kernel_rfl) (Chg.zero (Chg.drew _)) ?_
  have d19 := Chg.drew w7
  have s19 : Chg 0 0 w7 (World.drew w7) := Chg.zero (Chg.drew _)
  have y19 : (World.drew w7).heap.size = w7.heap.size := rfl
  generalize World.drew w7 = w19 at *
  have zw19 := d19.size
  refine dx_take 0 rfl rfl rfl rfl (by kernel_rfl) (by kernel_rfl) (by kernel_rfl) s19 (fun _ hS => px_load rfl ((f11.chg hS (by omega)).loadA (vs := [.bool n1, v1, .int .i64 p1]) (look_lit rfl) Try.isAgg30 Try.sizeOf30)) ?_
  refine dx_take 2 rfl rfl rfl rfl (by kernel_rfl) (by kernel_rfl) (by kernel_rfl) s19 (fun _ hS => px_load rfl ((f12.chg hS (by omega)).loadA (vs := [.bool n2, v2, .int .i64 p2]) (look_lit rfl) Try.isAgg30 Try.sizeOf30)) ?_
  refine dx_eff2 1 8 rfl rfl (by kernel_rfl) ?_ ?_
  ·
   have f20 := f15.ext d19
   refine sx_call rfl rfl Try.call72 (c_iDecRat f20 (by omega)) (fun v21 w21 p21 => ?_)
   obtain ⟨s21, t21, ls21, us21, lt21, ut21, rfl, os_21, ot_21, hd21, hl21, c21⟩ := p21
   have zw21 := c21.size
   have s22 : Chg 0 0 w7 w21 := (d19.t c21)
   refine wl_nil ?_
   refine dx_next s22 ?_
   refine dx_eff2 3 8 rfl rfl (by kernel_rfl) ?_ ?_
   ·
    have f23 := f18.ext d19
    have f24 := f23.ext c21
    refine sx_call rfl rfl Try.call72 (c_iDecRat f24 (by omega)) (fun v25 w25 p25 => ?_)
    obtain ⟨s25, t25, ls25, us25, lt25, ut25, rfl, os_25, ot_25, hd25, hl25, c25⟩ := p25
    have zw25 := c25.size
    have s26 : Chg 0 0 w7 w25 := ((d19.t c21).t c25)
    refine wl_nil ?_
    refine dx_next s26 ?_
    refine dx_eff2 4 8 rfl rfl (by kernel_rfl) ?_ ?_
    ·
     have f27 := os_21.ext c25
     have f28 := ot_21.ext c25
     refine sx_call rfl rfl Try.call71 (c_iRatDiv f27.sv f28.sv os_25.sv ot_25.sv (by omega)) (fun v29 w29 p29 => ?_)
     obtain ⟨s29, t29, ls29, us29, lt29, ut29, rfl, os_29, ot_29, hd29, hl29, c29⟩ := p29
     have zw29 := c29.size
     have s30 : Chg 0 0 w7 w29 := (((d19.t c21).t c25).t c29)
     refine wl_nil ?_
     refine dx_next s30 ?_
     refine dx_take 5 rfl rfl rfl rfl (by kernel_rfl) (by kernel_rfl) (by kernel_rfl) s30 (fun _ hS => px_move rfl) ?_
     refine dx_take 6 rfl rfl rfl rfl (by kernel_rfl) (by kernel_rfl) (by kernel_rfl) s30 (fun _ hS => px_extract (vs := [.agg #[.bool ((rDiv ((dRat n1 z1 p1).1) ((dRat n1 z1 p1).2.1) ((dRat n1 z1 p1).2.2.1) ((dRat n2 z2 p2).1) ((dRat n2 z2 p2).2.1) ((dRat n2 z2 p2).2.2.1)).1), s29, t29], .bool ((rDiv ((dRat n1 z1 p1).1) ((dRat n1 z1 p1).2.1) ((dRat n1 z1 p1).2.2.1) ((dRat n2 z2 p2).1) ((dRat n2 z2 p2).2.1) ((dRat n2 z2 p2).2.2.1)).2.2.2)]) rfl rfl) ?_
     refine dx_take 7 rfl rfl rfl rfl (by kernel_rfl) (by kernel_rfl) (by kernel_rfl) s30 (fun _ hS => px_extract (vs := [.agg #[.bool ((rDiv ((dRat n1 z1 p1).1) ((dRat n1 z1 p1).2.1) ((dRat n1 z1 p1).2.2.1) ((dRat n2 z2 p2).1) ((dRat n2 z2 p2).2.1) ((dRat n2 z2 p2).2.2.1)).1), s29, t29], .bool ((rDiv ((dRat n1 z1 p1).1) ((dRat n1 z1 p1).2.1) ((dRat n1 z1 p1).2.2.1) ((dRat n2 z2 p2).1) ((dRat n2 z2 p2).2.1) ((dRat n2 z2 p2).2.2.1)).2.2.2)]) rfl rfl) ?_
     refine dx_eff 8 rfl (by kernel_rfl) ?_
     refine sx_alloc [.bool false, (.slice none 0 0), (.slice none 0 0)] rfl Try.zeroValue44 rfl (fun b31 w32 eb31 sb31 fb31 cb31 => ?_)
     have zw32 := cb31.size
     have s33 : Chg 0 0 w7 w32 := ((((d19.t c21).t c25).t c29).t cb31)
     refine wl_nil ?_
     refine dx_next s33 ?_
     refine dx_eff 9 rfl (by kernel_rfl) ?_
     have f35 := ot_29.ext cb31
     have f36 := os_29.ext cb31
     refine sx_store (vs := [.bool ((rDiv ((dRat n1 z1 p1).1) ((dRat n1 z1 p1).2.1) ((dRat n1 z1 p1).2.2.1) ((dRat n2 z2 p2).1) ((dRat n2 z2 p2).2.1) ((dRat n2 z2 p2).2.2.1)).1), s29, t29]) rfl rfl fb31 rfl Try.sizeOf44 (Nat.le_of_ble_eq_true rfl) (one_cons rfl (one_cons f36.one (one_cons f35.one one_nil))) (fun w34 sw34 fw34 cw34 => ?_)
     have zw34 := cw34.size
     have gw34 : Blk w34 b31 [.bool ((rDiv ((dRat n1 z1 p1).1) ((dRat n1 z1 p1).2.1) ((dRat n1 z1 p1).2.2.1) ((dRat n2 z2 p2).1) ((dRat n2 z2 p2).2.1) ((dRat n2 z2 p2).2.2.1)).1), s29, t29] 44 := fw34
     have q38 := Chg.step (l := 0) (h := 0) (Chg.zero (l := 0) (h := 0) ((((d19.t c21).t c25).t c29).t cb31)) cw34 (by omega)
     have s37 : Chg 0 0 w7 w34 := q38
     refine wl_nil ?_
     refine dx_next s37 ?_
     refine dx_take 10 rfl rfl rfl rfl (by kernel_rfl) (by kernel_rfl) (by kernel_rfl) s37 (fun _ hS => px_assign rfl) ?_
     refine dx_done (by kernel_rfl) ?_
     have f39 := f36.chg cw34 (by omega)
     have f40 := f35.chg cw34 (by omega)
     have q41 := Chg.step (l := 0) (h := 0) (Chg.zero (l := 0) (h := 0) ((((d19.t c21).t c25).t c29).t cb31)) cw34 (by omega)
     exact q_n (kw_sub (Sub.cons (t := 2) rfl (.cons (t := 3) rfl (.cons (t := 8) rfl (.cons (t := 9) rfl (.cons (t := 10) rfl (.cons (t := 11) rfl (.nil))))))) (kc9 _ _ ⟨b31, s29, ls29, us29, t29, lt29, ut29, rfl, q41, gw34, f39, f40, by omega, by omega, by omega, by omega, by omega, by omega⟩))
    ·
     refine sx_alloc [.bool false, (.slice none 0 0), (.slice none 0 0)] rfl Try.zeroValue44 rfl (fun b42 w43 eb42 sb42 fb42 cb42 => ?_)
     have zw43 := cb42.size
     have s44 : Chg 0 0 w7 w43 := (((d19.t c21).t c25).t cb42)
     refine wl_nil ?_
     refine dx_next s44 ?_
     refine dx_eff 4 rfl (by kernel_rfl) ?_
     have f45 := os_21.ext c25
     have f46 := f45.ext cb42
     have f47 := ot_21.ext c25
     have f48 := f47.ext cb42
     have f49 := os_25.ext cb42
     have f50 := ot_25.ext cb42
     refine sx_call rfl rfl Try.call71 (c_iRatDiv f46.sv f48.sv f49.sv f50.sv (by omega)) (fun v51 w51 p51 => ?_)
     obtain ⟨s51, t51, ls51, us51, lt51, ut51, rfl, os_51, ot_51, hd51, hl51, c51⟩ := p51
     have zw51 := c51.size
     have s52 : Chg 0 0 w7 w51 := ((((d19.t c21).t c25).t cb42).t c51)
     refine wl_nil ?_
     refine dx_next s52 ?_
     refine dx_take 5 rfl rfl rfl rfl (by kernel_rfl) (by kernel_rfl) (by kernel_rfl) s52 (fun _ hS => px_move rfl) ?_
     refine dx_take 6 rfl rfl rfl rfl (by kernel_rfl) (by kernel_rfl) (by kernel_rfl) s52 (fun _ hS => px_extract (vs := [.agg #[.bool ((rDiv ((dRat n1 z1 p1).1) ((dRat n1 z1 p1).2.1) ((dRat n1 z1 p1).2.2.1) ((dRat n2 z2 p2).1) ((dRat n2 z2 p2).2.1) ((dRat n2 z2 p2).2.2.1)).1), s51, t51], .bool ((rDiv ((dRat n1 z1 p1).1) ((dRat n1 z1 p1).2.1) ((dRat n1 z1 p1).2.2.1) ((dRat n2 z2 p2).1) ((dRat n2 z2 p2).2.1) ((dRat n2 z2 p2).2.2.1)).2.2.2)]) rfl rfl) ?_
     refine dx_take 7 rfl rfl rfl rfl (by kernel_rfl) (by kernel_rfl) (by kernel_rfl) s52 (fun _ hS => px_extract (vs := [.agg #[.bool ((rDiv ((dRat n1 z1 p1).1) ((dRat n1 z1 p1).2.1) ((dRat n1 z1 p1).2.2.1) ((dRat n2 z2 p2).1) ((dRat n2 z2 p2).2.1) ((dRat n2 z2 p2).2.2.1)).1), s51, t51], .bool ((rDiv ((dRat n1 z1 p1).1) ((dRat n1 z1 p1).2.1) ((dRat n1 z1 p1).2.2.1) ((dRat n2 z2 p2).1) ((dRat n2 z2 p2).2.1) ((dRat n2 z2 p2).2.2.1)).2.2.2)]) rfl rfl) ?_
     refine dx_eff 9 rfl (by kernel_rfl) ?_
     have f54 := fb42.ext c51
     refine sx_store (vs := [.bool ((rDiv ((dRat n1 z1 p1).1) ((dRat n1 z1 p1).2.1) ((dRat n1 z1 p1).2.2.1) ((dRat n2 z2 p2).1) ((dRat n2 z2 p2).2.1) ((dRat n2 z2 p2).2.2.1)).1), s51, t51]) rfl rfl f54 rfl Try.sizeOf44 (Nat.le_of_ble_eq_true rfl) (one_cons rfl (one_cons os_51.one (one_cons ot_51.one one_nil))) (fun w53 sw53 fw53 cw53 => ?_)
     have zw53 := cw53.size
     have gw53 : Blk w53 b42 [.bool ((rDiv ((dRat n1 z1 p1).1) ((dRat n1 z1 p1).2.1) ((dRat n1 z1 p1).2.2.1) ((dRat n2 z2 p2).1) ((dRat n2 z2 p2).2.1) ((dRat n2 z2 p2).2.2.1)).1), s51, t51] 44 := fw53
     have q56 := Chg.step (l := 0) (h := 0) (Chg.zero (l := 0) (h := 0) ((((d19.t c21).t c25).t cb42).t c51)) cw53 (by omega)
     have s55 : Chg 0 0 w7 w53 := q56
     refine wl_nil ?_
     refine dx_next s55 ?_
     refine dx_take 10 rfl rfl rfl rfl (by kernel_rfl) (by kernel_rfl) (by kernel_rfl) s55 (fun _ hS => px_assign rfl) ?_
     refine dx_done (by kernel_rfl) ?_
     have f57 := os_51.chg cw53 (by omega)
     have f58 := ot_51.chg cw53 (by omega)
     have q59 := Chg.step (l := 0) (h := 0) (Chg.zero (l := 0) (h := 0) ((((d19.t c21).t c25).t cb42).t c51)) cw53 (by omega)
     exact q_n (kw_sub (Sub.cons (t := 2) rfl (.cons (t := 3) rfl (.cons (t := 8) rfl (.cons (t := 9) rfl (.cons (t := 10) rfl (.cons (t := 11) rfl (.nil))))))) (kc9 _ _ ⟨b42, s51, ls51, us51, t51, lt51, ut51, rfl, q59, gw53, f57, f58, by omega, by omega, by omega, by omega, by omega, by omega⟩))
   ·
    refine sx_alloc [.bool false, (.slice none 0 0), (.slice none 0 0)] rfl Try.zeroValue44 rfl (fun b60 w61 eb60 sb60 fb60 cb60 => ?_)
    have zw61 := cb60.size
    have s62 : Chg 0 0 w7 w61 := ((d19.t c21).t cb60)
    refine wl_nil ?_
    refine dx_next s62 ?_
    refine dx_eff 3 rfl (by kernel_rfl) ?_
    have f63 := f18.ext d19
    have f64 := f63.ext c21
    have f65 := f64.ext cb60
    refine sx_call rfl rfl Try.call72 (c_iDecRat f65 (by omega)) (fun v66 w66 p66 => ?_)
    obtain ⟨s66, t66, ls66, us66, lt66, ut66, rfl, os_66, ot_66, hd66, hl66, c66⟩ := p66
    have zw66 := c66.size
    have s67 : Chg 0 0 w7 w66 := (((d19.t c21).t cb60).t c66)
    refine wl_nil ?_
    refine dx_next s67 ?_
    refine dx_eff 4 rfl (by kernel_rfl) ?_
    have f68 := os_21.ext cb60
    have f69 := f68.ext c66
    have f70 := ot_21.ext cb60
    have f71 := f70.ext c66
    refine sx_call rfl rfl Try.call71 (c_iRatDiv f69.sv f71.sv os_66.sv ot_66.sv (by omega)) (fun v72 w72 p72 => ?_)
    obtain ⟨s72, t72, ls72, us72, lt72, ut72, rfl, os_72, ot_72, hd72, hl72, c72⟩ := p72
    have zw72 := c72.size
    have s73 : Chg 0 0 w7 w72 := ((((d19.t c21).t cb60).t c66).t c72)
    refine wl_nil ?_
    refine dx_next s73 ?_
    refine dx_take 5 rfl rfl rfl rfl (by kernel_rfl) (by kernel_rfl) (by kernel_rfl) s73 (fun _ hS => px_move rfl) ?_
    refine dx_take 6 rfl rfl rfl rfl (by kernel_rfl) (by kernel_rfl) (by kernel_rfl) s73 (fun _ hS => px_extract (vs := [.agg #[.bool ((rDiv ((dRat n1 z1 p1).1) ((dRat n1 z1 p1).2.1) ((dRat n1 z1 p1).2.2.1) ((dRat n2 z2 p2).1) ((dRat n2 z2 p2).2.1) ((dRat n2 z2 p2).2.2.1)).1), s72, t72], .bool ((rDiv ((dRat n1 z1 p1).1) ((dRat n1 z1 p1).2.1) ((dRat n1 z1 p1).2.2.1) ((dRat n2 z2 p2).1) ((dRat n2 z2 p2).2.1) ((dRat n2 z2 p2).2.2.1)).2.2.2)]) rfl rfl) ?_
    refine dx_take 7 rfl rfl rfl rfl (by kernel_rfl) (by kernel_rfl) (by kernel_rfl) s73 (fun _ hS => px_extract (vs := [.agg #[.bool ((rDiv ((dRat n1 z1 p1).1) ((dRat n1 z1 p1).2.1) ((dRat n1 z1 p1).2.2.1) ((dRat n2 z2 p2).1) ((dRat n2 z2 p2).2.1) ((dRat n2 z2 p2).2.2.1)).1), s72, t72], .bool ((rDiv ((dRat n1 z1 p1).1) ((dRat n1 z1 p1).2.1) ((dRat n1 z1 p1).2.2.1) ((dRat n2 z2 p2).1) ((dRat n2 z2 p2).2.1) ((dRat n2 z2 p2).2.2.1)).2.2.2)]) rfl rfl) ?_
    refine dx_eff 9 rfl (by kernel_rfl) ?_
    have f75 := fb60.ext c66
    have f76 := f75.ext c72
    refine sx_store (vs := [.bool ((rDiv ((dRat n1 z1 p1).1) ((dRat n1 z1 p1).2.1) ((dRat n1 z1 p1).2.2.1) ((dRat n2 z2 p2).1) ((dRat n2 z2 p2).2.1) ((dRat n2 z2 p2).2.2.1)).1), s72, t72]) rfl rfl f76 rfl Try.sizeOf44 (Nat.le_of_ble_eq_true rfl) (one_cons rfl (one_cons os_72.one (one_cons ot_72.one one_nil))) (fun w74 sw74 fw74 cw74 => ?_)
    have zw74 := cw74.size
    have gw74 : Blk w74 b60 [.bool ((rDiv ((dRat n1 z1 p1).1) ((dRat n1 z1 p1).2.1) ((dRat n1 z1 p1).2.2.1) ((dRat n2 z2 p2).1) ((dRat n2 z2 p2).2.1) ((dRat n2 z2 p2).2.2.1)).1), s72, t72] 44 := fw74
    have q78 := Chg.step (l := 0) (h := 0) (Chg.zero (l := 0) (h := 0) ((((d19.t c21).t cb60).t c66).t c72)) cw74 (by omega)
    have s77 : Chg 0 0 w7 w74 := q78
    refine wl_nil ?_
    refine dx_next s77 ?_
    refine dx_take 10 rfl rfl rfl rfl (by kernel_rfl) (by kernel_rfl) (by kernel_rfl) s77 (fun _ hS => px_assign rfl) ?_
    refine dx_done (by kernel_rfl) ?_
    have f79 := os_72.chg cw74 (by omega)
    have f80 := ot_72.chg cw74 (by omega)
    have q81 := Chg.step (l := 0) (h := 0) (Chg.zero (l := 0) (h := 0) ((((d19.t c21).t cb60).t c66).t c72)) cw74 (by omega)
    exact q_n (kw_sub (Sub.cons (t := 2) rfl (.cons (t := 3) rfl (.cons (t := 8) rfl (.cons (t := 9) rfl (.cons (t := 10) rfl (.cons (t := 11) rfl (.nil))))))) (kc9 _ _ ⟨b60, s72, ls72, us72, t72, lt72, ut72, rfl, q81, gw74, f79, f80, by omega, by omega, by omega, by omega, by omega, by omega⟩))
  ·
   refine sx_alloc [.bool false, (.slice none 0 0), (.slice none 0 0)] rfl Try.zeroValue44 rfl (fun b82 w83 eb82 sb82 fb82 cb82 => ?_)
   have zw83 := cb82.size
   have s84 : Chg 0 0 w7 w83 := (d19.t cb82)
   refine wl_nil ?_
   refine dx_next s84 ?_
   refine dx_eff 1 rfl (by kernel_rfl) ?_
   have f85 := f15.ext d19
   have f86 := f85.ext cb82
   refine sx_call rfl rfl Try.call72 (c_iDecRat f86 (by omega)) (fun v87 w87 p87 => ?_)
   obtain ⟨s87, t87, ls87, us87, lt87, ut87, rfl, os_87, ot_87, hd87, hl87, c87⟩ := p87
   have zw87 := c87.size
   have s88 : Chg 0 0 w7 w87 := ((d19.t cb82).t c87)
   refine wl_nil ?_
   refine dx_next s88 ?_
   refine dx_eff 3 rfl (by kernel_rfl) ?_
   have f89 := f18.ext d19
   have f90 := f89.ext cb82
   have f91 := f90.ext c87
   refine sx_call rfl rfl Try.call72 (c_iDecRat f91 (by omega)) (fun v92 w92 p92 => ?_)
   obtain ⟨s92, t92, ls92, us92, lt92, ut92, rfl, os_92, ot_92, hd92, hl92, c92⟩ := p92
   have zw92 := c92.size
   have s93 : Chg 0 0 w7 w92 := (((d19.t cb82).t c87).t c92)
   refine wl_nil ?_
   refine dx_next s93 ?_
   refine dx_eff 4 rfl (by kernel_rfl) ?_
   have f94 := os_87.ext c92
   have f95 := ot_87.ext c92
   refine sx_call rfl rfl Try.call71 (c_iRatDiv f94.sv f95.sv os_92.sv ot_92.sv (by omega)) (fun v96 w96 p96 => ?_)
   obtain ⟨s96, t96, ls96, us96, lt96, ut96, rfl, os_96, ot_96, hd96, hl96, c96⟩ := p96
   have zw96 := c96.size
   have s97 : Chg 0 0 w7 w96 := ((((d19.t cb82).t c87).t c92).t c96)
   refine wl_nil ?_
   refine dx_next s97 ?_
   refine dx_take 5 rfl rfl rfl rfl (by kernel_rfl) (by kernel_rfl) (by kernel_rfl) s97 (fun _ hS => px_move rfl) ?_
   refine dx_take 6 rfl rfl rfl rfl (by kernel_rfl) (by kernel_rfl) (by kernel_rfl) s97 (fun _ hS => px_extract (vs := [.agg #[.bool ((rDiv ((dRat n1 z1 p1).1) ((dRat n1 z1 p1).2.1) ((dRat n1 z1 p1).2.2.1) ((dRat n2 z2 p2).1) ((dRat n2 z2 p2).2.1) ((dRat n2 z2 p2).2.2.1)).1), s96, t96], .bool ((rDiv ((dRat n1 z1 p1).1) ((dRat n1 z1 p1).2.1) ((dRat n1 z1 p1).2.2.1) ((dRat n2 z2 p2).1) ((dRat n2 z2 p2).2.1) ((dRat n2 z2 p2).2.2.1)).2.2.2)]) rfl rfl) ?_
   refine dx_take 7 rfl rfl rfl rfl (by kernel_rfl) (by kernel_rfl) (by kernel_rfl) s97 (fun _ hS => px_extract (vs := [.agg #[.bool ((rDiv ((dRat n1 z1 p1).1) ((dRat n1 z1 p1).2.1) ((dRat n1 z1 p1).2.2.1) ((dRat n2 z2 p2).1) ((dRat n2 z2 p2).2.1) ((dRat n2 z2 p2).2.2.1)).1), s96, t96], .bool ((rDiv ((dRat n1 z1 p1).1) ((dRat n1 z1 p1).2.1) ((dRat n1 z1 p1).2.2.1) ((dRat n2 z2 p2).1) ((dRat n2 z2 p2).2.1) ((dRat n2 z2 p2).2.2.1)).2.2.2)]) rfl rfl) ?_
   refine dx_eff 9 rfl (by kernel_rfl) ?_
   have f99 := fb82.ext c87
   have f100 := f99.ext c92
   have f101 := f100.ext c96
   refine sx_store (vs := [.bool ((rDiv ((dRat n1 z1 p1).1) ((dRat n1 z1 p1).2.1) ((dRat n1 z1 p1).2.2.1) ((dRat n2 z2 p2).1) ((dRat n2 z2 p2).2.1) ((dRat n2 z2 p2).2.2.1)).1), s96, t96]) rfl rfl f101 rfl Try.sizeOf44 (Nat.le_of_ble_eq_true rfl) (one_cons rfl (one_cons os_96.one (one_cons ot_96.one one_nil))) (fun w98 sw98 fw98 cw98 => ?_)
   have zw98 := cw98.size
   have gw98 : Blk w98 b82 [.bool ((rDiv ((dRat n1 z1 p1).1) ((dRat n1 z1 p1).2.1) ((dRat n1 z1 p1).2.2.1) ((dRat n2 z2 p2).1) ((dRat n2 z2 p2).2.1) ((dRat n2 z2 p2).2.2.1)).1), s96, t96] 44 := fw98
   have q103 := Chg.step (l := 0) (h := 0) (Chg.zero (l := 0) (h := 0) ((((d19.t cb82).t c87).t c92).t c96)) cw98 (by omega)
   have s102 : Chg 0 0 w7 w98 := q103
   refine wl_nil ?_
   refine dx_next s102 ?_
   refine dx_take 10 rfl rfl rfl rfl (by kernel_rfl) (by kernel_rfl) (by kernel_rfl) s102 (fun _ hS => px_assign rfl) ?_
   refine dx_done (by kernel_rfl) ?_
   have f104 := os_96.chg cw98 (by omega)
   have f105 := ot_96.chg cw98 (by omega)
   have q106 := Chg.step (l := 0) (h := 0) (Chg.zero (l := 0) (h := 0) ((((d19.t cb82).t c87).t c92).t c96)) cw98 (by omega)
   exact q_n (kw_sub (Sub.cons (t := 2) rfl (.cons (t := 3) rfl (.cons (t := 8) rfl (.cons (t := 9) rfl (.cons (t := 10) rfl (.cons (t := 11) rfl (.nil))))))) (kc9 _ _ ⟨b82, s96, ls96, us96, t96, lt96, ut96, rfl, q106, gw98, f104, f105, by omega, by omega, by omega, by omega, by omega, by omega⟩))
 ·
  rintro fr w'9 ⟨gb9x0, gs9x1, gl9x1, gu9x1, gs9x2, gl9x2, gu9x2, rfl, cw'9, xgb9x0, xgs9x1, xgs9x2, ygb9x0, ygl9x1, ygl9x2, dgl9x1xgb9x0, dgl9x2xgb9x0, dgl9x2xgl9x1⟩
  have zw'9 := cw'9.size
  refine sx_seq fun K107 k107 => ?_
  refine sx_seq fun K108 k108 => sx_region ?_
  refine sm rfl rfl rfl rfl ?_
  refine sx_pure rfl rfl rfl (px_not rfl) ?_
  refine wl_nil (q_n (k108 _ _ ?_))
  refine sx_condB rfl (fun h156 => ?_) (fun h156 => ?_)
  ·
   refine sx_seq fun K109 k109 => sx_region ?_
   refine sx_pure rfl rfl rfl (px_build rfl (xbld30x  _)) ?_
   have f111 := fb6.ext cw'9
   refine sx_store (vs := [.bool false, (.slice none 0 0), .int .i64 0]) rfl rfl f111 rfl Try.sizeOf30 (Nat.le_of_ble_eq_true rfl) (one_cons rfl (one_cons rfl (one_cons rfl one_nil))) (fun w110 sw110 fw110 cw110 => ?_)
   have zw110 := cw110.size
   have gw110 : Blk w110 b6 [.bool false, (.slice none 0 0), .int .i64 0] 30 := fw110
   refine sa rfl rfl rfl rfl ?_
   refine wl_nil (q_n (k109 _ _ ?_))
   refine sx_retc ?_
   refine q_r (sx_ret2 Try.results30 ⟨_, rfl, gw110.loadA (vs := [.bool false, (.slice none 0 0), .int .i64 0]) (look_lit rfl) Try.isAgg30 Try.sizeOf30⟩ rfl ?_)
   rw [show dDiv n1 z1 p1 n2 z2 p2 q m = noD by unfold dDiv; rw [if_neg (fun hh => bcl hh h156)]]
   have q112 := Chg.step (l := 0) (h := 0) (Chg.zero (l := 0) (h := 0) (((cb2.t cb4).t cb6).t cw'9)) cw110 (by omega)
   exact ⟨_, rfl, Own.nil _ _ _ _ _, by simp [noD], q112⟩
  ·
   refine sx_skip ?_
   refine q_n (k107 _ _ ?_)
   refine sx_seq fun K113 k113 => sx_region ?_
   refine sx_pure rfl rfl rfl (px_load rfl (xgb9x0.loadA (vs := [.bool ((rDiv ((dRat n1 z1 p1).1) ((dRat n1 z1 p1).2.1) ((dRat n1 z1 p1).2.2.1) ((dRat n2 z2 p2).1) ((dRat n2 z2 p2).2.1) ((dRat n2 z2 p2).2.2.1)).1), gs9x1, gs9x2]) (look_lit rfl) Try.isAgg44 Try.sizeOf44)) ?_
   refine sm rfl rfl rfl rfl ?_
   refine sm rfl rfl rfl rfl ?_
   refine sx_call rfl rfl Try.call20 (c_iRatDec xgs9x1.sv xgs9x2.sv (by have h9 := rDiv_len (n1 := (dRat n1 z1 p1).1) (z1 := (dRat n1 z1 p1).2.1) (y1 := (dRat n1 z1 p1).2.2.1) (n2 := (dRat n2 z2 p2).1) (z2 := (dRat n2 z2 p2).2.1) (y2 := (dRat n2 z2 p2).2.2.1); omega)) (fun v114 w114 p114 => ?_)
   obtain ⟨s114, rfl, os_114, hl114, c114⟩ := p114
   have zw114 := c114.size
   refine sx_pure rfl rfl rfl (px_extract (vs := [.agg #[.bool ((rDec ((rDiv ((dRat n1 z1 p1).1) ((dRat n1 z1 p1).2.1) ((dRat n1 z1 p1).2.2.1) ((dRat n2 z2 p2).1) ((dRat n2 z2 p2).2.1) ((dRat n2 z2 p2).2.2.1)).1) ((rDiv ((dRat n1 z1 p1).1) ((dRat n1 z1 p1).2.1) ((dRat n1 z1 p1).2.2.1) ((dRat n2 z2 p2).1) ((dRat n2 z2 p2).2.1) ((dRat n2 z2 p2).2.2.1)).2.1) ((rDiv ((dRat n1 z1 p1).1) ((dRat n1 z1 p1).2.1) ((dRat n1 z1 p1).2.2.1) ((dRat n2 z2 p2).1) ((dRat n2 z2 p2).2.1) ((dRat n2 z2 p2).2.2.1)).2.2.1) q m).1), s114, .int .i64 ((rDec ((rDiv ((dRat n1 z1 p1).1) ((dRat n1 z1 p1).2.1) ((dRat n1 z1 p1).2.2.1) ((dRat n2 z2 p2).1) ((dRat n2 z2 p2).2.1) ((dRat n2 z2 p2).2.2.1)).1) ((rDiv ((dRat n1 z1 p1).1) ((dRat n1 z1 p1).2.1) ((dRat n1 z1 p1).2.2.1) ((dRat n2 z2 p2).1) ((dRat n2 z2 p2).2.1) ((dRat n2 z2 p2).2.2.1)).2.1) ((rDiv ((dRat n1 z1 p1).1) ((dRat n1 z1 p1).2.1) ((dRat n1 z1 p1).2.2.1) ((dRat n2 z2 p2).1) ((dRat n2 z2 p2).2.1) ((dRat n2 z2 p2).2.2.1)).2.2.1) q m).2.2.1)], .bool ((rDec ((rDiv ((dRat n1 z1 p1).1) ((dRat n1 z1 p1).2.1) ((dRat n1 z1 p1).2.2.1) ((dRat n2 z2 p2).1) ((dRat n2 z2 p2).2.1) ((dRat n2 z2 p2).2.2.1)).1) ((rDiv ((dRat n1 z1 p1).1) ((dRat n1 z1 p1).2.1) ((dRat n1 z1 p1).2.2.1) ((dRat n2 z2 p2).1) ((dRat n2 z2 p2).2.1) ((dRat n2 z2 p2).2.2.1)).2.1) ((rDiv ((dRat n1 z1 p1).1) ((dRat n1 z1 p1).2.1) ((dRat n1 z1 p1).2.2.1) ((dRat n2 z2 p2).1) ((dRat n2 z2 p2).2.1) ((dRat n2 z2 p2).2.2.1)).2.2.1) q m).2.2.2)]) rfl rfl) ?_
   refine sx_pure rfl rfl rfl (px_extract (vs := [.agg #[.bool ((rDec ((rDiv ((dRat n1 z1 p1).1) ((dRat n1 z1 p1).2.1) ((dRat n1 z1 p1).2.2.1) ((dRat n2 z2 p2).1) ((dRat n2 z2 p2).2.1) ((dRat n2 z2 p2).2.2.1)).1) ((rDiv ((dRat n1 z1 p1).1) ((dRat n1 z1 p1).2.1) ((dRat n1 z1 p1).2.2.1) ((dRat n2 z2 p2).1) ((dRat n2 z2 p2).2.1) ((dRat n2 z2 p2).2.2.1)).2.1) ((rDiv ((dRat n1 z1 p1).1) ((dRat n1 z1 p1).2.1) ((dRat n1 z1 p1).2.2.1) ((dRat n2 z2 p2).1) ((dRat n2 z2 p2).2.1) ((dRat n2 z2 p2).2.2.1)).2.2.1) q m).1), s114, .int .i64 ((rDec ((rDiv ((dRat n1 z1 p1).1) ((dRat n1 z1 p1).2.1) ((dRat n1 z1 p1).2.2.1) ((dRat n2 z2 p2).1) ((dRat n2 z2 p2).2.1) ((dRat n2 z2 p2).2.2.1)).1) ((rDiv ((dRat n1 z1 p1).1) ((dRat n1 z1 p1).2.1) ((dRat n1 z1 p1).2.2.1) ((dRat n2 z2 p2).1) ((dRat n2 z2 p2).2.1) ((dRat n2 z2 p2).2.2.1)).2.1) ((rDiv ((dRat n1 z1 p1).1) ((dRat n1 z1 p1).2.1) ((dRat n1 z1 p1).2.2.1) ((dRat n2 z2 p2).1) ((dRat n2 z2 p2).2.1) ((dRat n2 z2 p2).2.2.1)).2.2.1) q m).2.2.1)], .bool ((rDec ((rDiv ((dRat n1 z1 p1).1) ((dRat n1 z1 p1).2.1) ((dRat n1 z1 p1).2.2.1) ((dRat n2 z2 p2).1) ((dRat n2 z2 p2).2.1) ((dRat n2 z2 p2).2.2.1)).1) ((rDiv ((dRat n1 z1 p1).1) ((dRat n1 z1 p1).2.1) ((dRat n1 z1 p1).2.2.1) ((dRat n2 z2 p2).1) ((dRat n2 z2 p2).2.1) ((dRat n2 z2 p2).2.2.1)).2.1) ((rDiv ((dRat n1 z1 p1).1) ((dRat n1 z1 p1).2.1) ((dRat n1 z1 p1).2.2.1) ((dRat n2 z2 p2).1) ((dRat n2 z2 p2).2.1) ((dRat n2 z2 p2).2.2.1)).2.2.1) q m).2.2.2)]) rfl rfl) ?_
   have f116 := fb6.ext cw'9
   have f117 := f116.ext c114
   refine sx_store (vs := [.bool ((rDec ((rDiv ((dRat n1 z1 p1).1) ((dRat n1 z1 p1).2.1) ((dRat n1 z1 p1).2.2.1) ((dRat n2 z2 p2).1) ((dRat n2 z2 p2).2.1) ((dRat n2 z2 p2).2.2.1)).1) ((rDiv ((dRat n1 z1 p1).1) ((dRat n1 z1 p1).2.1) ((dRat n1 z1 p1).2.2.1) ((dRat n2 z2 p2).1) ((dRat n2 z2 p2).2.1) ((dRat n2 z2 p2).2.2.1)).2.1) ((rDiv ((dRat n1 z1 p1).1) ((dRat n1 z1 p1).2.1) ((dRat n1 z1 p1).2.2.1) ((dRat n2 z2 p2).1) ((dRat n2 z2 p2).2.1) ((dRat n2 z2 p2).2.2.1)).2.2.1) q m).1), s114, .int .i64 ((rDec ((rDiv ((dRat n1 z1 p1).1) ((dRat n1 z1 p1).2.1) ((dRat n1 z1 p1).2.2.1) ((dRat n2 z2 p2).1) ((dRat n2 z2 p2).2.1) ((dRat n2 z2 p2).2.2.1)).1) ((rDiv ((dRat n1 z1 p1).1) ((dRat n1 z1 p1).2.1) ((dRat n1 z1 p1).2.2.1) ((dRat n2 z2 p2).1) ((dRat n2 z2 p2).2.1) ((dRat n2 z2 p2).2.2.1)).2.1) ((rDiv ((dRat n1 z1 p1).1) ((dRat n1 z1 p1).2.1) ((dRat n1 z1 p1).2.2.1) ((dRat n2 z2 p2).1) ((dRat n2 z2 p2).2.1) ((dRat n2 z2 p2).2.2.1)).2.2.1) q m).2.2.1)]) rfl rfl f117 rfl Try.sizeOf30 (Nat.le_of_ble_eq_true rfl) (one_cons rfl (one_cons os_114.one (one_cons rfl one_nil))) (fun w115 sw115 fw115 cw115 => ?_)
   have zw115 := cw115.size
   have gw115 : Blk w115 b6 [.bool ((rDec ((rDiv ((dRat n1 z1 p1).1) ((dRat n1 z1 p1).2.1) ((dRat n1 z1 p1).2.2.1) ((dRat n2 z2 p2).1) ((dRat n2 z2 p2).2.1) ((dRat n2 z2 p2).2.2.1)).1) ((rDiv ((dRat n1 z1 p1).1) ((dRat n1 z1 p1).2.1) ((dRat n1 z1 p1).2.2.1) ((dRat n2 z2 p2).1) ((dRat n2 z2 p2).2.1) ((dRat n2 z2 p2).2.2.1)).2.1) ((rDiv ((dRat n1 z1 p1).1) ((dRat n1 z1 p1).2.1) ((dRat n1 z1 p1).2.2.1) ((dRat n2 z2 p2).1) ((dRat n2 z2 p2).2.1) ((dRat n2 z2 p2).2.2.1)).2.2.1) q m).1), s114, .int .i64 ((rDec ((rDiv ((dRat n1 z1 p1).1) ((dRat n1 z1 p1).2.1) ((dRat n1 z1 p1).2.2.1) ((dRat n2 z2 p2).1) ((dRat n2 z2 p2).2.1) ((dRat n2 z2 p2).2.2.1)).1) ((rDiv ((dRat n1 z1 p1).1) ((dRat n1 z1 p1).2.1) ((dRat n1 z1 p1).2.2.1) ((dRat n2 z2 p2).1) ((dRat n2 z2 p2).2.1) ((dRat n2 z2 p2).2.2.1)).2.1) ((rDiv ((dRat n1 z1 p1).1) ((dRat n1 z1 p1).2.1) ((dRat n1 z1 p1).2.2.1) ((dRat n2 z2 p2).1) ((dRat n2 z2 p2).2.1) ((dRat n2 z2 p2).2.2.1)).2.2.1) q m).2.2.1)] 30 := fw115
   refine sa rfl rfl rfl rfl ?_
   refine wl_nil (q_n (k113 _ _ ?_))
   refine sx_retc ?_
   refine sx_ret2 Try.results30 ⟨_, rfl, gw115.loadA (vs := [.bool ((rDec ((rDiv ((dRat n1 z1 p1).1) ((dRat n1 z1 p1).2.1) ((dRat n1 z1 p1).2.2.1) ((dRat n2 z2 p2).1) ((dRat n2 z2 p2).2.1) ((dRat n2 z2 p2).2.2.1)).1) ((rDiv ((dRat n1 z1 p1).1) ((dRat n1 z1 p1).2.1) ((dRat n1 z1 p1).2.2.1) ((dRat n2 z2 p2).1) ((dRat n2 z2 p2).2.1) ((dRat n2 z2 p2).2.2.1)).2.1) ((rDiv ((dRat n1 z1 p1).1) ((dRat n1 z1 p1).2.1) ((dRat n1 z1 p1).2.2.1) ((dRat n2 z2 p2).1) ((dRat n2 z2 p2).2.1) ((dRat n2 z2 p2).2.2.1)).2.2.1) q m).1), s114, .int .i64 ((rDec ((rDiv ((dRat n1 z1 p1).1) ((dRat n1 z1 p1).2.1) ((dRat n1 z1 p1).2.2.1) ((dRat n2 z2 p2).1) ((dRat n2 z2 p2).2.1) ((dRat n2 z2 p2).2.2.1)).1) ((rDiv ((dRat n1 z1 p1).1) ((dRat n1 z1 p1).2.1) ((dRat n1 z1 p1).2.2.1) ((dRat n2 z2 p2).1) ((dRat n2 z2 p2).2.1) ((dRat n2 z2 p2).2.2.1)).2.1) ((rDiv ((dRat n1 z1 p1).1) ((dRat n1 z1 p1).2.1) ((dRat n1 z1 p1).2.2.1) ((dRat n2 z2 p2).1) ((dRat n2 z2 p2).2.1) ((dRat n2 z2 p2).2.2.1)).2.2.1) q m).2.2.1)]) (look_lit rfl) Try.isAgg30 Try.sizeOf30⟩ rfl ?_
   have hrl := dDiv_len (n1 := n1) (z1 := z1) (p1 := p1) (n2 := n2) (z2 := z2) (p2 := p2) (q := q) (m := m)
   unfold dDiv at hrl ⊢
   rw [if_pos (bnot_f h156)] at hrl ⊢
   have q118 := Chg.step (l := 0) (h := 0) (Chg.zero (l := 0) (h := 0) ((((cb2.t cb4).t cb6).t cw'9).t c114)) cw115 (by omega)
   have f119 := os_114.chg cw115 (by omega)
   exact ⟨_, rfl, (Own.mono f119 (by omega) (by omega)), hrl, q118⟩

end Go.Proofs.Ytfoceofnldnbgaa
