/- Contracts of functions of the program: what each call returns, and that it changes nothing that was. Conditions: as each says. -/
import Derived.Test.YtfoceofnldnbgaaTy
import Derived.Test.YtfoceofnldnbgaaNatK
import Derived.Test.YtfoceofnldnbgaaRm
import Derived.Test.YtfoceofnldnbgaaK0
set_option linter.unusedVariables false
set_option linter.unusedSimpArgs false
namespace Go.Proofs.Ytfoceofnldnbgaa
open Go Go.RowKit
set_option maxRecDepth 100000
theorem c_natMul {w : World} {va : Value} {lva uva : Nat} {m : Nat} {vb : Value} {lvb uvb : Nat} {n : Nat} (hva : Sl w lva uva va (dg m)) (hvb : Sl w lvb uvb vb (dg n)) (hbm : (dg m).length ≤ 1000) (hbn : (dg n).length ≤ 1000) :
  Ret Try.prog 77 [va, vb] w fun v w' => ∃ s, v = s ∧ OwnI w' w.heap.size w'.heap.size s intT (dg (m * n)) ∧ Chg 0 0 w w' := by
 have hva0 := hva.fit
 have hvb0 := hvb.fit
 refine sx_enter Try.func77 rfl Try.ntmps77 (Nat.le_of_ble_eq_true rfl) ?_
 refine sx_seq fun K1 k1 => sx_region ?_
 refine sa rfl rfl rfl rfl ?_
 refine wl_nil (q_n (k1 _ _ ?_))
 refine sx_seq fun K2 k2 => sx_region ?_
 refine sm rfl rfl rfl rfl ?_
 refine sx_pure rfl rfl rfl (px_len rfl Try.underlying22 hva0) ?_
 refine sm rfl rfl rfl rfl ?_
 refine sx_pure rfl rfl rfl (px_len rfl Try.underlying22 hvb0) ?_
 refine sx_pure rfl rfl rfl (px_add rfl rfl (by omega)) ?_
 refine sx_pure rfl rfl rfl (px_add rfl rfl (by omega)) ?_
 refine sx_make (c := (dg m).length + (dg n).length + 1) rfl xelt22 (look_int rfl (by omega)) (look_int rfl (by omega)) (by omega) (by unfold maxLen; omega) (fun s3 ws3 fs3 cs3 ls3 => ?_)
 have ns3 := fs3.made
 have zws3 := cs3.size
 refine sa rfl rfl rfl rfl ?_
 refine wl_nil (q_n (k2 _ _ ?_))
 refine sx_seq fun K4 k4 => ?_
 refine sx_seq fun K5 k5 => sx_region ?_
 refine sm rfl rfl rfl rfl ?_
 have f6 := hva0.ext cs3
 refine sx_pure rfl rfl rfl (px_len rfl Try.underlying22 f6) ?_
 refine sm rfl rfl rfl rfl ?_
 refine wl_nil (q_n (k5 _ _ ?_))
 refine sx_block ?_
 refine sx_loop (fun mm aa w' => ∃ (k : Nat) (os : List Int), Agr 79 [(1, vb), (5, s3), (19, va), (20, .int .i64 (↑(dg m).length)), (21, .int .i64 ↑k)] aa ∧ Chg w.heap.size ws3.heap.size ws3 w' ∧ Own w' w.heap.size ws3.heap.size s3 intT os.length 1 (os.map (Value.int .i64)) ∧ (mm = (dg m).length - k) ∧ (k ≤ (dg m).length) ∧ (os.length = (dg m).length + (dg n).length + 1) ∧ (Lm os) ∧ (∀ i, k + (dg n).length ≤ i → os.getD i 0 = 0) ∧ (vl os = vl ((dg m).take k) * n)) (_) (fun a ha => ⟨0, List.replicate ((dg m).length + (dg n).length + 1) 0, ha.sub (Sub.cons (t := 1) rfl (.cons (t := 5) rfl (.cons (t := 19) rfl (.cons (t := 20) (look_int (t := 20) rfl (by first | omega | simp)) (.cons (t := 21) (look_int (t := 21) rfl (by first | omega | simp)) (.nil)))))), Chg.refl _ _ _, (ns3.mono (by omega) (by omega)), rfl, by omega, by simp, Lm.replicate _, fun i _ => zero_rep _ i (Nat.zero_le _), by rw [vl_replicate, List.take_zero]; simp [vl]⟩) ?_
 rintro mm aa wl7 ⟨k, os, hAwl7, cwl7, hs_s3, hm, hk, hos, hlm, hz, hv⟩
 refine (show cw Try.prog 79 _ _ _ wl7 from ?_) aa hAwl7
 clear hAwl7
 have zwl7 := cwl7.size
 have am := (Lm_dg m).getD k
 refine sx_seq fun K8 k8 => sx_region ?_
 refine sx_pure rfl rfl rfl (px_lt rfl rfl) ?_
 refine wl_nil (q_n (k8 _ _ ?_))
 refine sx_seq fun K9 k9 => ?_
 refine sx_condP rfl (fun h140 => ?_) (fun h140 => ?_)
 ·
  refine sx_skip ?_
  refine q_n (k9 _ _ ?_)
  refine sx_seq fun K10 k10 => ?_
  refine sx_block ?_
  refine sx_seq fun K11 k11 => sx_region ?_
  refine sm rfl rfl rfl rfl ?_
  have f12 := f6.chg cwl7 (by omega)
  refine sx_pure rfl rfl rfl (px_index1 (j := k) rfl rfl (by omega) Try.underlying22 Try.sizeOf3 f12 (by first | omega | (simp only [List.length_set]; omega))) ?_
  refine sx_pure rfl rfl rfl (px_load rfl (f12.load1 (at_int (by omega)) Try.isAgg3)) ?_
  refine sa rfl rfl rfl rfl ?_
  refine sa rfl rfl rfl rfl ?_
  refine wl_nil (q_n (k11 _ _ ?_))
  refine sx_seq fun K13 k13 => sx_region ?_
  refine sa rfl rfl rfl rfl ?_
  refine wl_nil (q_n (k13 _ _ ?_))
  refine sx_seq fun K14 k14 => ?_
  refine sx_seq fun K15 k15 => sx_region ?_
  refine sm rfl rfl rfl rfl ?_
  have f16 := hvb0.ext cs3
  have f17 := f16.chg cwl7 (by omega)
  refine sx_pure rfl rfl rfl (px_len rfl Try.underlying22 f17) ?_
  refine sm rfl rfl rfl rfl ?_
  refine wl_nil (q_n (k15 _ _ ?_))
  refine sx_sub (Sub.cons (t := 1) rfl (.cons (t := 5) rfl (.cons (t := 6) rfl (.cons (t := 7) rfl (.cons (t := 8) rfl (.cons (t := 19) rfl (.cons (t := 20) rfl (.cons (t := 21) rfl (.cons (t := 26) rfl (.cons (t := 27) rfl (.cons (t := 28) rfl (.nil)))))))))))) ?_
  refine sx_block ?_
  refine sx_loop (fun mm aa w' => ∃ (j : Nat) (o2 : List Int) (c : Int), Agr 79 [(1, vb), (5, s3), (6, .int .i64 ↑k), (7, .int .i64 ((dg m).getD k 0)), (8, .int .i64 c), (19, va), (20, .int .i64 (↑(dg m).length)), (21, .int .i64 ↑k), (26, vb), (27, .int .i64 (↑(dg n).length)), (28, .int .i64 ↑j)] aa ∧ Chg w.heap.size ws3.heap.size wl7 w' ∧ Own w' w.heap.size ws3.heap.size s3 intT o2.length 1 (o2.map (Value.int .i64)) ∧ (mm = (dg n).length - j) ∧ (j ≤ (dg n).length) ∧ (o2.length = (dg m).length + (dg n).length + 1) ∧ (Lm o2) ∧ (∀ i, k + (dg n).length ≤ i → o2.getD i 0 = 0) ∧ (0 ≤ c ∧ c < 1000000000) ∧ (vl o2 + Bs ^ (k + j) * c.toNat = vl os + Bs ^ k * (((dg m).getD k 0).toNat * vl ((dg n).take j)))) (_) (fun a ha => ⟨0, os, 0, ha.sub (Sub.cons (t := 1) rfl (.cons (t := 5) rfl (.cons (t := 6) rfl (.cons (t := 7) rfl (.cons (t := 8) (look_int (t := 8) rfl (by first | omega | simp)) (.cons (t := 19) rfl (.cons (t := 20) rfl (.cons (t := 21) rfl (.cons (t := 26) rfl (.cons (t := 27) (look_int (t := 27) rfl (by first | omega | simp)) (.cons (t := 28) (look_int (t := 28) rfl (by first | omega | simp)) (.nil)))))))))))), Chg.refl _ _ _, hs_s3, rfl, by omega, hos, hlm, hz, by omega, by simp [vl]⟩) ?_
  rintro mm aa wl18 ⟨j, o2, c, hAwl18, cwl18, hs_s3, hm, hj, hos2, hlm2, hz2, hc, hv2⟩
  refine (show cw Try.prog 79 _ _ _ wl18 from ?_) aa hAwl18
  clear hAwl18
  have zwl18 := cwl18.size
  have bn := (Lm_dg n).getD j
  have on := hlm2.getD (k + j)
  have hxy := mul_limb am.1 am.2 bn.1 bn.2
  refine sx_seq fun K19 k19 => sx_region ?_
  refine sx_pure rfl rfl rfl (px_lt rfl rfl) ?_
  refine wl_nil (q_n (k19 _ _ ?_))
  refine sx_seq fun K20 k20 => ?_
  refine sx_condP rfl (fun h142 => ?_) (fun h142 => ?_)
  ·
   refine sx_skip ?_
   refine q_n (k20 _ _ ?_)
   refine sx_seq fun K21 k21 => ?_
   refine sx_block ?_
   refine sx_seq fun K22 k22 => sx_region ?_
   refine sm rfl rfl rfl rfl ?_
   have f23 := f17.chg cwl18 (by omega)
   refine sx_pure rfl rfl rfl (px_index1 (j := j) rfl rfl (by omega) Try.underlying22 Try.sizeOf3 f23 (by first | omega | (simp only [List.length_set]; omega))) ?_
   refine sx_pure rfl rfl rfl (px_load rfl (f23.load1 (at_int (by omega)) Try.isAgg3)) ?_
   refine sa rfl rfl rfl rfl ?_
   refine sa rfl rfl rfl rfl ?_
   refine wl_nil (q_n (k22 _ _ ?_))
   refine sx_sub (Sub.cons (t := 1) rfl (.cons (t := 5) rfl (.cons (t := 6) rfl (.cons (t := 7) rfl (.cons (t := 8) rfl (.cons (t := 9) rfl (.cons (t := 10) rfl (.cons (t := 19) rfl (.cons (t := 20) rfl (.cons (t := 21) rfl (.cons (t := 26) rfl (.cons (t := 27) rfl (.cons (t := 28) rfl (.nil)))))))))))))) ?_
   refine sx_seq fun K24 k24 => sx_region ?_
   refine sm rfl rfl rfl rfl ?_
   refine sm rfl rfl rfl rfl ?_
   refine sm rfl rfl rfl rfl ?_
   refine sm rfl rfl rfl rfl ?_
   refine sx_pure rfl rfl rfl (px_add rfl rfl (by omega)) ?_
   refine sx_pure rfl rfl rfl (px_index1 (j := (k + j)) rfl rfl (by omega) Try.underlying22 Try.sizeOf3 hs_s3.sv (by first | omega | (simp only [List.length_set]; omega))) ?_
   refine sx_pure rfl rfl rfl (px_load rfl (hs_s3.sv.load1 (at_int (by omega)) Try.isAgg3)) ?_
   refine sm rfl rfl rfl rfl ?_
   refine sm rfl rfl rfl rfl ?_
   refine sx_pure rfl rfl rfl (px_mul rfl rfl (by omega)) ?_
   refine sx_pure rfl rfl rfl (px_add rfl rfl (by omega)) ?_
   refine sx_pure rfl rfl rfl (px_add rfl rfl (by omega)) ?_
   refine sa rfl rfl rfl rfl ?_
   refine wl_nil (q_n (k24 _ _ ?_))
   refine sx_sub (Sub.cons (t := 1) rfl (.cons (t := 5) rfl (.cons (t := 6) rfl (.cons (t := 7) rfl (.cons (t := 8) rfl (.cons (t := 9) rfl (.cons (t := 19) rfl (.cons (t := 20) rfl (.cons (t := 21) rfl (.cons (t := 26) rfl (.cons (t := 27) rfl (.cons (t := 28) rfl (.nil))))))))))))) ?_
   refine sx_seq fun K25 k25 => sx_region ?_
   refine sm rfl rfl rfl rfl ?_
   refine sm rfl rfl rfl rfl ?_
   refine sm rfl rfl rfl rfl ?_
   refine sx_pure rfl rfl rfl (px_add rfl rfl (by omega)) ?_
   refine sm rfl rfl rfl rfl ?_
   refine sx_pure rfl rfl rfl (px_rem rfl rfl (by omega) (by omega)) ?_
   refine sx_pure rfl rfl rfl (px_index1 (j := (k + j)) rfl rfl (by omega) Try.underlying22 Try.sizeOf3 hs_s3.sv (by first | omega | (simp only [List.length_set]; omega))) ?_
   refine sx_storeO rfl rfl hs_s3 (by first | omega | (simp only [List.length_map]; omega)) Try.sizeOf3 rfl (fun w26 sw26 fw26 cw26 => ?_)
   have zw26 := cw26.size
   have nw26 := fw26.set
   refine wl_nil (q_n (k25 _ _ ?_))
   refine sx_sub (Sub.cons (t := 1) rfl (.cons (t := 5) rfl (.cons (t := 6) rfl (.cons (t := 7) rfl (.cons (t := 8) rfl (.cons (t := 19) rfl (.cons (t := 20) rfl (.cons (t := 21) rfl (.cons (t := 26) rfl (.cons (t := 27) rfl (.cons (t := 28) rfl (.nil)))))))))))) ?_
   refine sx_region ?_
   refine sm rfl rfl rfl rfl ?_
   refine sx_pure rfl rfl rfl (px_quo rfl rfl (by omega) (by omega) (by omega)) ?_
   refine sa rfl rfl rfl rfl ?_
   refine wl_nil ?_
   refine q_bn (q_n (k21 _ _ ?_))
   refine sx_region ?_
   refine sx_pure rfl rfl rfl (px_add rfl rfl (by omega)) ?_
   refine sm rfl rfl rfl rfl ?_
   refine wl_nil ?_
   have q27 := Chg.step (l := w.heap.size) (h := ws3.heap.size) cwl18 cw26 (by omega)
   have hs : (c + (((o2).getD (k + j) 0) + (((dg m).getD k 0) * ((dg n).getD j 0)))) = c + (o2.getD (k + j) 0 + (dg m).getD k 0 * (dg n).getD j 0) := by omega
   have hm2 := mul_step (V := vl os) hc.1 am.1 on.1 bn.1 (by omega) (by omega) hs hv2
   exact fun a ha => ⟨_, by omega, (j + 1), ((o2).set (k + j) ((c + (((o2).getD (k + j) 0) + (((dg m).getD k 0) * ((dg n).getD j 0)))) % 1000000000)), ((c + (((o2).getD (k + j) 0) + (((dg m).getD k 0) * ((dg n).getD j 0)))) / 1000000000), ha.sub (Sub.cons (t := 1) rfl (.cons (t := 5) rfl (.cons (t := 6) rfl (.cons (t := 7) rfl (.cons (t := 8) (look_int (t := 8) rfl (by first | omega | simp)) (.cons (t := 19) rfl (.cons (t := 20) rfl (.cons (t := 21) rfl (.cons (t := 26) rfl (.cons (t := 27) rfl (.cons (t := 28) (look_int (t := 28) rfl (by first | omega | simp)) (.nil)))))))))))), q27, (nw26.mono (by omega) (by omega)), rfl, by omega, by simpa using hos2, hlm2.set _ (by omega) (by omega), zero_set' hz2 (by omega), by omega, hm2⟩
  ·
   refine sx_exit ?_
   refine q_e (q_e (q_bx (q_n (k14 _ _ ?_))))
   refine sx_seq fun K28 k28 => sx_region ?_
   refine sm rfl rfl rfl rfl ?_
   refine sm rfl rfl rfl rfl ?_
   have f29 := f17.chg cwl18 (by omega)
   refine sx_pure rfl rfl rfl (px_len rfl Try.underlying22 f29) ?_
   refine sx_pure rfl rfl rfl (px_add rfl rfl (by omega)) ?_
   refine sa rfl rfl rfl rfl ?_
   refine wl_nil (q_n (k28 _ _ ?_))
   refine sx_sub (Sub.cons (t := 1) rfl (.cons (t := 5) rfl (.cons (t := 8) rfl (.cons (t := 11) rfl (.cons (t := 19) rfl (.cons (t := 20) rfl (.cons (t := 21) rfl (.nil)))))))) ?_
   refine sx_block ?_
   have ej : j = (dg n).length := by omega
   rw [ej, List.take_length, vl_dg] at hv2
   refine sx_loop (fun mm aa w' => ∃ (q : Nat) (o3 : List Int) (e : Int), Agr 79 [(1, vb), (5, s3), (8, .int .i64 e), (11, .int .i64 ↑q), (19, va), (20, .int .i64 (↑(dg m).length)), (21, .int .i64 ↑k)] aa ∧ Chg w.heap.size ws3.heap.size wl18 w' ∧ Own w' w.heap.size ws3.heap.size s3 intT o3.length 1 (o3.map (Value.int .i64)) ∧ (mm = k + (dg n).length + 1 - q) ∧ (o3.length = (dg m).length + (dg n).length + 1) ∧ (Lm o3) ∧ (∀ i, q ≤ i → o3.getD i 0 = 0) ∧ (0 ≤ e ∧ e < 1000000000) ∧ (q = k + (dg n).length ∨ (q = k + (dg n).length + 1 ∧ e = 0)) ∧ (vl o3 + Bs ^ q * e.toNat = vl os + Bs ^ k * (((dg m).getD k 0).toNat * n))) (_) (fun a ha => ⟨(k + (dg n).length), o2, c, ha.sub (Sub.cons (t := 1) rfl (.cons (t := 5) rfl (.cons (t := 8) (look_int (t := 8) rfl (by first | omega | simp)) (.cons (t := 11) (look_int (t := 11) rfl (by first | omega | simp)) (.cons (t := 19) rfl (.cons (t := 20) rfl (.cons (t := 21) rfl (.nil)))))))), Chg.refl _ _ _, hs_s3, rfl, hos2, hlm2, hz2, by omega, .inl rfl, hv2⟩) ?_
   rintro mm aa wl30 ⟨q, o3, e, hAwl30, cwl30, hs_s3, hm, hos3, hlm3, hz3, he, hq, hv3⟩
   refine (show cw Try.prog 79 _ _ _ wl30 from ?_) aa hAwl30
   clear hAwl30
   have zwl30 := cwl30.size
   have on := hlm3.getD q
   have oz := hz3 q (Nat.le_refl _)
   refine sx_seq fun K31 k31 => ?_
   refine sx_seq fun K32 k32 => sx_region ?_
   refine sm rfl rfl rfl rfl ?_
   refine sx_pure rfl rfl rfl (px_gt rfl rfl) ?_
   refine wl_nil (q_n (k32 _ _ ?_))
   refine sx_condP rfl (fun h147 => ?_) (fun h147 => ?_)
   ·
    refine sx_skip ?_
    refine q_n (k31 _ _ ?_)
    refine sx_seq fun K33 k33 => ?_
    refine sx_block ?_
    refine sx_seq fun K34 k34 => sx_region ?_
    refine sm rfl rfl rfl rfl ?_
    refine sm rfl rfl rfl rfl ?_
    refine sm rfl rfl rfl rfl ?_
    refine sx_pure rfl rfl rfl (px_index1 (j := q) rfl rfl (by omega) Try.underlying22 Try.sizeOf3 hs_s3.sv (by first | omega | (simp only [List.length_set]; omega))) ?_
    refine sx_pure rfl rfl rfl (px_load rfl (hs_s3.sv.load1 (at_int (by omega)) Try.isAgg3)) ?_
    refine sx_pure rfl rfl rfl (px_add rfl rfl (by omega)) ?_
    refine sa rfl rfl rfl rfl ?_
    refine wl_nil (q_n (k34 _ _ ?_))
    refine sx_sub (Sub.cons (t := 1) rfl (.cons (t := 5) rfl (.cons (t := 8) rfl (.cons (t := 11) rfl (.cons (t := 19) rfl (.cons (t := 20) rfl (.cons (t := 21) rfl (.nil)))))))) ?_
    refine sx_seq fun K35 k35 => sx_region ?_
    refine sm rfl rfl rfl rfl ?_
    refine sm rfl rfl rfl rfl ?_
    refine sm rfl rfl rfl rfl ?_
    refine sx_pure rfl rfl rfl (px_rem rfl rfl (by omega) (by omega)) ?_
    refine sx_pure rfl rfl rfl (px_index1 (j := q) rfl rfl (by omega) Try.underlying22 Try.sizeOf3 hs_s3.sv (by first | omega | (simp only [List.length_set]; omega))) ?_
    refine sx_storeO rfl rfl hs_s3 (by first | omega | (simp only [List.length_map]; omega)) Try.sizeOf3 rfl (fun w36 sw36 fw36 cw36 => ?_)
    have zw36 := cw36.size
    have nw36 := fw36.set
    refine wl_nil (q_n (k35 _ _ ?_))
    refine sx_region ?_
    refine sm rfl rfl rfl rfl ?_
    refine sx_pure rfl rfl rfl (px_quo rfl rfl (by omega) (by omega) (by omega)) ?_
    refine sa rfl rfl rfl rfl ?_
    refine wl_nil ?_
    refine q_bn (q_n (k33 _ _ ?_))
    refine sx_region ?_
    refine sm rfl rfl rfl rfl ?_
    refine sx_pure rfl rfl rfl (px_add rfl rfl (by omega)) ?_
    refine sa rfl rfl rfl rfl ?_
    refine wl_nil ?_
    have q37 := Chg.step (l := w.heap.size) (h := ws3.heap.size) cwl30 cw36 (by omega)
    have hs : (e + ((o3).getD q 0)) = e + o3.getD q 0 := by omega
    have hm3 := carry_gen (by omega) he.1 on.1 hs hv3
    exact fun a ha => ⟨_, by omega, (q + 1), ((o3).set q ((e + ((o3).getD q 0)) % 1000000000)), ((e + ((o3).getD q 0)) / 1000000000), ha.sub (Sub.cons (t := 1) rfl (.cons (t := 5) rfl (.cons (t := 8) (look_int (t := 8) rfl (by first | omega | simp)) (.cons (t := 11) (look_int (t := 11) rfl (by first | omega | simp)) (.cons (t := 19) rfl (.cons (t := 20) rfl (.cons (t := 21) rfl (.nil)))))))), q37, (nw36.mono (by omega) (by omega)), rfl, by simpa using hos3, hlm3.set _ (by omega) (by omega), zero_set hz3 (by omega), by omega, .inr (by omega), hm3⟩
   ·
    refine sx_exit ?_
    refine q_e (q_e (q_bx (q_bn (q_n (k10 _ _ ?_)))))
    have e0 : e = 0 := by omega
    subst e0
    have hosR := hos3
    have hlmR := hlm3
    have hzR : ∀ i, k + (dg n).length + 1 ≤ i → o3.getD i 0 = 0 := fun i hi => hz3 i (by omega)
    have hvR : vl o3 = vl os + Bs ^ k * (((dg m).getD k 0).toNat * n) := by simpa using hv3
    refine sx_region ?_
    refine sx_pure rfl rfl rfl (px_add rfl rfl (by omega)) ?_
    refine sm rfl rfl rfl rfl ?_
    refine wl_nil ?_
    have q38 := Chg.step (l := w.heap.size) (h := ws3.heap.size) cwl7 cwl18 (by omega)
    have q39 := Chg.step (l := w.heap.size) (h := ws3.heap.size) q38 cwl30 (by omega)
    have hrow := mul_row (P := Bs ^ k) (a := ((dg m).getD k 0).toNat) hv
    rw [← vl_take_succ'] at hrow
    exact fun a ha => ⟨_, by omega, (k + 1), o3, ha.sub (Sub.cons (t := 1) rfl (.cons (t := 5) rfl (.cons (t := 19) rfl (.cons (t := 20) rfl (.cons (t := 21) (look_int (t := 21) rfl (by first | omega | simp)) (.nil)))))), q39, (hs_s3.mono (by omega) (by omega)), rfl, by omega, by simpa using hosR, hlmR, fun i hi => hzR i (by omega), hvR.trans hrow⟩
 ·
  refine sx_exit ?_
  refine q_e (q_e (q_bx (q_n (k4 _ _ ?_))))
  refine sx_seq fun K40 k40 => ?_
  have ek : k = (dg m).length := by omega
  rw [ek, List.take_length, vl_dg] at hv
  have hzz := hlm
  refine sx_region ?_
  refine sm rfl rfl rfl rfl ?_
  refine sx_call rfl rfl Try.call83 (c_trim hs_s3 (by assumption) (by first | omega | (simp only [List.length_append, List.length_set, List.length_replicate, List.length_cons, List.length_nil] at *; omega))) (fun v41 w41 p41 => ?_)
  obtain ⟨s41, rfl, os_41, c41⟩ := p41
  have zw41 := c41.size
  refine sa rfl rfl rfl rfl ?_
  refine wl_nil (q_n (k40 _ _ ?_))
  refine sx_retc ?_
  refine sx_ret1 Try.results77 rfl ?_
  have hr := os_41
  rw [hv] at hr
  have q42 := Chg.step (l := 0) (h := 0) (Chg.zero (l := 0) (h := 0) cs3) cwl7 (by omega)
  have q43 := Chg.step (l := 0) (h := 0) q42 c41 (by omega)
  exact ⟨_, rfl, hr.mono (by omega) (by omega), q43⟩

theorem c_natMulS {w : World} {va : Value} {lva uva : Nat} {m : Nat} {vb : Value} {lvb uvb : Nat} {ys : List Int} (hva : Sl w lva uva va (dg m)) (hvb : Sl w lvb uvb vb (ys)) (hbm : (dg m).length ≤ 1000) (hbn : ys.length ≤ 1000) (hy : ys = dg (vl ys)) :
  Ret Try.prog 77 [va, vb] w fun v w' => ∃ s, v = s ∧ OwnI w' w.heap.size w'.heap.size s intT (dg (m * vl ys)) ∧ Chg 0 0 w w' := by
 have hl : (dg (vl ys)).length ≤ 1000 := by rw [← hy]; exact hbn
 rw [hy] at hvb; exact c_natMul hva hvb hbm hl

theorem c_signed {w : World} {n : Bool} {va : Value} {lva uva : Nat} {zs : List Int} (hva : Sl w lva uva va (zs)) (h63 : zs.length ≤ 4611686018427387904) :
  Ret Try.prog 45 [.bool n, va] w fun v w' => v = .agg #[.bool (nz n zs), va] ∧ Chg 0 0 w w' := by
 have hva0 := hva.fit
 refine sx_enter Try.func45 rfl Try.ntmps45 (Nat.le_of_ble_eq_true rfl) ?_
 refine sx_seq fun K1 k1 => sx_region ?_
 refine sx_alloc [.bool false, (.slice none 0 0)] rfl Try.zeroValue28 rfl (fun b2 w3 eb2 sb2 fb2 cb2 => ?_)
 have zw3 := cb2.size
 refine wl_nil (q_n (k1 _ _ ?_))
 refine sx_seq fun K4 k4 => sx_region ?_
 refine sm rfl rfl rfl rfl ?_
 refine sm rfl rfl rfl rfl ?_
 refine sx_tmpB (t := 6) rfl (fun h16 => ?_) (fun h16 => ?_)
 ·
  refine sx_guardT rfl rfl rfl ?_
  refine sm rfl rfl rfl rfl ?_
  refine sx_guardT rfl rfl rfl ?_
  have f5 := hva0.ext cb2
  refine sx_pure rfl rfl rfl (px_len rfl Try.underlying22 f5) ?_
  refine sx_guardT rfl rfl rfl ?_
  refine sx_pure rfl rfl rfl (px_gt rfl rfl) ?_
  refine sx_pure rfl rfl rfl (px_pick rfl rfl) ?_
  refine sm rfl rfl rfl rfl ?_
  refine sx_pure rfl rfl rfl (px_build rfl (xbld28x0x1 rfl f5.one _)) ?_
  refine sx_store (vs := [.bool (decide ((0 : Int) < ↑((zs).length))), va]) rfl rfl fb2 rfl Try.sizeOf28 (Nat.le_of_ble_eq_true rfl) (one_cons rfl (one_cons f5.one one_nil)) (fun w6 sw6 fw6 cw6 => ?_)
  have zw6 := cw6.size
  have gw6 : Blk w6 b2 [.bool (decide ((0 : Int) < ↑((zs).length))), va] 28 := fw6
  refine wl_nil (q_n (k4 _ _ ?_))
  refine sx_retc ?_
  refine sx_ret1 Try.results45 ⟨_, rfl, gw6.loadA (vs := [.bool (decide ((0 : Int) < ↑((zs).length))), va]) (look_lit rfl) Try.isAgg28 Try.sizeOf28⟩ ?_
  have q7 := Chg.step (l := 0) (h := 0) (Chg.zero (l := 0) (h := 0) cb2) cw6 (by omega)
  exact ⟨(by simp [nz, h16]), q7⟩
 ·
  refine sx_guardF rfl rfl rfl rfl rfl rfl ?_
  refine sx_guardF rfl rfl rfl rfl rfl rfl ?_
  refine sx_guardF rfl rfl rfl rfl rfl rfl ?_
  refine sx_pure rfl rfl rfl (px_pick rfl rfl) ?_
  refine sm rfl rfl rfl rfl ?_
  have f8 := hva0.ext cb2
  refine sx_pure rfl rfl rfl (px_build rfl (xbld28x0x1 rfl f8.one _)) ?_
  refine sx_store (vs := [.bool false, va]) rfl rfl fb2 rfl Try.sizeOf28 (Nat.le_of_ble_eq_true rfl) (one_cons rfl (one_cons f8.one one_nil)) (fun w9 sw9 fw9 cw9 => ?_)
  have zw9 := cw9.size
  have gw9 : Blk w9 b2 [.bool false, va] 28 := fw9
  refine wl_nil (q_n (k4 _ _ ?_))
  refine sx_retc ?_
  refine sx_ret1 Try.results45 ⟨_, rfl, gw9.loadA (vs := [.bool false, va]) (look_lit rfl) Try.isAgg28 Try.sizeOf28⟩ ?_
  have q10 := Chg.step (l := 0) (h := 0) (Chg.zero (l := 0) (h := 0) cb2) cw9 (by omega)
  exact ⟨(by simp [nz, h16]), q10⟩

theorem c_scaled1 {w : World} {va : Value} {lva uva : Nat} {x : Int} {p : Int} {b : Nat} {q : Int} (hva : Sl w lva uva va (dg x.natAbs)) (hb : Blk w b [.int .i64 q] intT) (hbx : (dg x.natAbs).length ≤ 50) (hp : 0 ≤ p ∧ p ≤ q ∧ q ≤ 30) :
  Ret Try.prog 76 [.agg #[.bool (ng x), va, .int .i64 p], .pointer (some ⟨b, 0, none⟩)] w fun v w' => ∃ s, v = .agg #[.bool (ng (x * tenI (q - p))), s] ∧ OwnI w' w.heap.size w'.heap.size s intT (dg (x * tenI (q - p)).natAbs) ∧ Chg 0 0 w w' := by
 have hva0 := hva.fit
 have blt := hb.lt
 have l1 := len_mul x.natAbs (10 ^ (q - p).toNat)
 have l2 := ten_len (k := q - p) (by omega)
 refine sx_enter Try.func76 rfl Try.ntmps76 (Nat.le_of_ble_eq_true rfl) ?_
 refine sx_seq fun K1 k1 => sx_region ?_
 refine sx_box [.bool (ng x), va, .int .i64 p] rfl rfl rfl (fun b2 w3 eb2 sb2 fb2 cb2 => ?_)
 have zw3 := cb2.size
 refine sx_alloc [.bool false, (.slice none 0 0)] rfl Try.zeroValue28 rfl (fun b4 w5 eb4 sb4 fb4 cb4 => ?_)
 have zw5 := cb4.size
 refine wl_nil (q_n (k1 _ _ ?_))
 refine sx_seq fun K6 k6 => ?_
 have f7 := hb.ext cb2
 have f8 := f7.ext cb4
 have f9 := fb2.ext cb4
 have f10 := hva0.ext cb2
 have f11 := f10.ext cb4
 refine dx_region (fun w' => Chg b4 (b4 + 1) w5 w') (by kernel_rfl) (Chg.zero (Chg.drew _)) ?_
 have d12 := Chg.drew w5
 have s12 : Chg b4 (b4 + 1) w5 (World.drew w5) := Chg.zero (Chg.drew _)
 have y12 : (World.drew w5).heap.size = w5.heap.size := rfl
 generalize World.drew w5 = w12 at *
 have zw12 := d12.size
 refine dx_take 0 rfl rfl rfl rfl (by kernel_rfl) (by kernel_rfl) (by kernel_rfl) s12 (fun _ hS => px_field rfl xfld30x0) ?_
 refine dx_take 1 rfl rfl rfl rfl (by kernel_rfl) (by kernel_rfl) (by kernel_rfl) s12 (fun _ hS => px_field rfl xfld28x0) ?_
 refine dx_take 2 rfl rfl rfl rfl (by kernel_rfl) (by kernel_rfl) (by kernel_rfl) s12 (fun _ hS => px_load rfl ((f9.chg hS (by omega)).load1 rfl Try.isAgg4)) ?_
 refine dx_take 3 rfl rfl rfl rfl (by kernel_rfl) (by kernel_rfl) (by kernel_rfl) s12 (fun _ hS => px_field rfl xfld30x0) ?_
 refine dx_take 4 rfl rfl rfl rfl (by kernel_rfl) (by kernel_rfl) (by kernel_rfl) s12 (fun _ hS => px_field rfl xfld28x1) ?_
 refine dx_take 5 rfl rfl rfl rfl (by kernel_rfl) (by kernel_rfl) (by kernel_rfl) s12 (fun _ hS => px_load rfl ((f9.chg hS (by omega)).load1 rfl Try.isAgg22)) ?_
 refine dx_take 6 rfl rfl rfl rfl (by kernel_rfl) (by kernel_rfl) (by kernel_rfl) s12 (fun _ hS => px_load rfl ((f8.chg hS (by omega)).load1 rfl Try.isAgg3)) ?_
 refine dx_take 7 rfl rfl rfl rfl (by kernel_rfl) (by kernel_rfl) (by kernel_rfl) s12 (fun _ hS => px_field rfl xfld30x1) ?_
 refine dx_take 8 rfl rfl rfl rfl (by kernel_rfl) (by kernel_rfl) (by kernel_rfl) s12 (fun _ hS => px_load rfl ((f9.chg hS (by omega)).load1 rfl Try.isAgg3)) ?_
 refine dx_take 9 rfl rfl rfl rfl (by kernel_rfl) (by kernel_rfl) (by kernel_rfl) s12 (fun _ hS => px_sub rfl rfl (by omega)) ?_
 refine dx_eff 10 rfl (by kernel_rfl) ?_
 refine sx_call rfl rfl Try.call44 (c_natTen (by omega)) (fun v13 w13 p13 => ?_)
 obtain ⟨s13, rfl, os_13, c13⟩ := p13
 have zw13 := c13.size
 have s14 : Chg b4 (b4 + 1) w5 w13 := (Chg.zero (l := b4) (h := (b4 + 1)) (d12.t c13))
 refine wl_nil ?_
 refine dx_next s14 ?_
 refine dx_eff 11 rfl (by kernel_rfl) ?_
 have f15 := f11.ext d12
 have f16 := f15.ext c13
 refine sx_call rfl rfl Try.call77 (c_natMul f16 os_13.sv (by omega) (by have h := ten_len (k := q - p) (by omega); omega)) (fun v17 w17 p17 => ?_)
 obtain ⟨s17, rfl, os_17, c17⟩ := p17
 have zw17 := c17.size
 have s18 : Chg b4 (b4 + 1) w5 w17 := (Chg.zero (l := b4) (h := (b4 + 1)) ((d12.t c13).t c17))
 refine wl_nil ?_
 refine dx_next s18 ?_
 refine dx_eff 12 rfl (by kernel_rfl) ?_
 refine sx_call rfl rfl Try.call45 (c_signed os_17.sv (by omega)) (fun v19 w19 p19 => ?_)
 obtain ⟨rfl, c19⟩ := p19
 have zw19 := c19.size
 have s20 : Chg b4 (b4 + 1) w5 w19 := (Chg.zero (l := b4) (h := (b4 + 1)) (((d12.t c13).t c17).t c19))
 refine wl_nil ?_
 refine dx_next s20 ?_
 refine dx_eff 13 rfl (by kernel_rfl) ?_
 have f22 := fb4.ext d12
 have f23 := f22.ext c13
 have f24 := f23.ext c17
 have f25 := f24.ext c19
 have f26 := os_17.ext c19
 refine sx_store (vs := [.bool (nz (ng x) (dg (x.natAbs * (10 ^ ((q - p)).toNat)))), v17]) rfl rfl f25 rfl Try.sizeOf28 (Nat.le_of_ble_eq_true rfl) (one_cons rfl (one_cons f26.one one_nil)) (fun w21 sw21 fw21 cw21 => ?_)
 have zw21 := cw21.size
 have gw21 : Blk w21 b4 [.bool (nz (ng x) (dg (x.natAbs * (10 ^ ((q - p)).toNat)))), v17] 28 := fw21
 have q28 := Chg.step (l := b4) (h := (b4 + 1)) (Chg.zero (l := b4) (h := (b4 + 1)) (((d12.t c13).t c17).t c19)) cw21 (by omega)
 have s27 : Chg b4 (b4 + 1) w5 w21 := q28
 refine wl_nil ?_
 refine dx_next s27 ?_
 refine dx_done (by kernel_rfl) ?_
 refine q_n (k6 _ _ ?_)
 refine sx_sub (Sub.cons (t := 3) rfl (.nil)) ?_
 refine sx_retc ?_
 refine sx_ret1 Try.results76 ⟨_, rfl, gw21.loadA (vs := [.bool (nz (ng x) (dg (x.natAbs * (10 ^ ((q - p)).toNat)))), v17]) (look_lit rfl) Try.isAgg28 Try.sizeOf28⟩ ?_
 have hh := ten_mul_sg x (q - p)
 rw [← hh.1, ← hh.2]
 have q29 := Chg.step (l := 0) (h := 0) (Chg.zero (l := 0) (h := 0) (((((cb2.t cb4).t d12).t c13).t c17).t c19)) cw21 (by omega)
 have f30 := f26.chg cw21 (by omega)
 exact ⟨_, rfl, (Own.mono f30 (by omega) (by omega)), q29⟩

theorem c_scaled {w : World} {q : Int} :
  Ret Try.prog 42 [.int .i64 q] w fun v w' => ∃ b, v = .func (.func 76) #[] #[.pointer (some ⟨b, 0, none⟩)] ∧ Blk w' b [.int .i64 (q)] intT ∧ (w.heap.size ≤ b ∧ b < w'.heap.size) ∧ Chg 0 0 w w' := by
 refine sx_enter Try.func42 rfl Try.ntmps42 (Nat.le_of_ble_eq_true rfl) ?_
 refine sx_seq fun K1 k1 => sx_region ?_
 refine sx_box [.int .i64 q] rfl rfl rfl (fun b2 w3 eb2 sb2 fb2 cb2 => ?_)
 have zw3 := cb2.size
 refine sa rfl rfl rfl rfl ?_
 refine wl_nil (q_n (k1 _ _ ?_))
 refine sx_seq fun K4 k4 => sx_region ?_
 refine sx_pure rfl rfl rfl (px_makeFunc rfl rfl) ?_
 refine sa rfl rfl rfl rfl ?_
 refine wl_nil (q_n (k4 _ _ ?_))
 refine sx_retc ?_
 refine sx_ret1 Try.results42 rfl ?_
 exact ⟨_, rfl, fb2, ⟨by omega, by omega⟩, cb2⟩

theorem c_decOf {w : World} {va : Value} {lva uva : Nat} {x : Int} {p : Int} (hva : OwnI w lva uva va intT (dg x.natAbs)) (hbx : (dg x.natAbs).length ≤ 1000) (hu : uva ≤ w.heap.size) :
  Ret Try.prog 41 [.agg #[.bool (ng x), va], .int .i64 p] w fun v w' => ∃ s, v = .tuple #[.agg #[.bool ((decR x p).1), s, .int .i64 ((decR x p).2.2.1)], .bool ((decR x p).2.2.2)] ∧ OwnI w' (lva) (uva) s intT ((decR x p).2.1) ∧ Chg 0 0 w w' := by
 refine sx_enter Try.func41 rfl Try.ntmps41 (Nat.le_of_ble_eq_true rfl) ?_
 refine sx_seq fun K1 k1 => sx_region ?_
 refine sx_box [.bool (ng x), va] rfl rfl rfl (fun b2 w3 eb2 sb2 fb2 cb2 => ?_)
 have zw3 := cb2.size
 refine sx_alloc [.bool false, (.slice none 0 0), .int .i64 0] rfl Try.zeroValue30 rfl (fun b4 w5 eb4 sb4 fb4 cb4 => ?_)
 have zw5 := cb4.size
 refine sa rfl rfl rfl rfl ?_
 refine wl_nil (q_n (k1 _ _ ?_))
 refine sx_seq fun K6 k6 => ?_
 refine sx_seq fun K7 k7 => sx_region ?_
 have f8 := fb2.ext cb4
 refine sx_pure rfl rfl rfl (px_load rfl (f8.loadA (vs := [.bool (ng x), va]) (look_lit rfl) Try.isAgg28 Try.sizeOf28)) ?_
 refine sm rfl rfl rfl rfl ?_
 refine sx_pure rfl rfl rfl (px_build rfl (xbld30x0x1 rfl _)) ?_
 refine sx_alloc [.bool false, (.slice none 0 0), .int .i64 0] rfl Try.zeroValue30 rfl (fun b9 w10 eb9 sb9 fb9 cb9 => ?_)
 have zw10 := cb9.size
 have f12 := hva.ext cb2
 have f13 := f12.ext cb4
 have f14 := f13.ext cb9
 refine sx_store (vs := [.bool (ng x), va, .int .i64 p]) rfl rfl fb9 rfl Try.sizeOf30 (Nat.le_of_ble_eq_true rfl) (one_cons rfl (one_cons f14.one (one_cons rfl one_nil))) (fun w11 sw11 fw11 cw11 => ?_)
 have zw11 := cw11.size
 have gw11 : Blk w11 b9 [.bool (ng x), va, .int .i64 p] 30 := fw11
 refine wl_nil (q_n (k7 _ _ ?_))
 refine sx_seq fun K15 k15 => sx_region ?_
 refine sx_pure rfl rfl rfl (px_load rfl (gw11.loadA (vs := [.bool (ng x), va, .int .i64 p]) (look_lit rfl) Try.isAgg30 Try.sizeOf30)) ?_
 have f16 := f14.chg cw11 (by omega)
 refine sx_call rfl rfl Try.call39 (c_iDecOk f16.sv (by omega)) (fun v17 w17 p17 => ?_)
 obtain ⟨rfl, c17⟩ := p17
 have zw17 := c17.size
 refine wl_nil (q_n (k15 _ _ ?_))
 refine sx_condP rfl (fun h22 => ?_) (fun h22 => ?_)
 ·
  refine sx_seq fun K18 k18 => sx_region ?_
  have f19 := gw11.ext c17
  refine sx_pure rfl rfl rfl (px_load rfl (f19.loadA (vs := [.bool (ng x), va, .int .i64 p]) (look_lit rfl) Try.isAgg30 Try.sizeOf30)) ?_
  have f21 := fb4.ext cb9
  have f22 := f21.chg cw11 (by omega)
  have f23 := f22.ext c17
  have f24 := f16.ext c17
  refine sx_store (vs := [.bool (ng x), va, .int .i64 p]) rfl rfl f23 rfl Try.sizeOf30 (Nat.le_of_ble_eq_true rfl) (one_cons rfl (one_cons f24.one (one_cons rfl one_nil))) (fun w20 sw20 fw20 cw20 => ?_)
  have zw20 := cw20.size
  have gw20 : Blk w20 b4 [.bool (ng x), va, .int .i64 p] 30 := fw20
  refine sa rfl rfl rfl rfl ?_
  refine wl_nil (q_n (k18 _ _ ?_))
  refine sx_retc ?_
  refine q_r (sx_ret2 Try.results41 ⟨_, rfl, gw20.loadA (vs := [.bool (ng x), va, .int .i64 p]) (look_lit rfl) Try.isAgg30 Try.sizeOf30⟩ rfl ?_)
  rw [decR_ok (by first | exact h22 | exact Decidable.not_not.1 h22)]
  have q25 := Chg.step (l := 0) (h := 0) (Chg.zero (l := 0) (h := 0) ((cb2.t cb4).t cb9)) cw11 (by omega)
  have q26 := Chg.step (l := 0) (h := 0) q25 c17 (by omega)
  have q27 := Chg.step (l := 0) (h := 0) q26 cw20 (by omega)
  have f28 := f24.chg cw20 (by omega)
  exact ⟨_, rfl, (Own.mono f28 (by omega) (by omega)), q27⟩
 ·
  refine sx_skip ?_
  refine q_n (k6 _ _ ?_)
  refine sx_seq fun K29 k29 => sx_region ?_
  refine sx_pure rfl rfl rfl (px_build rfl (xbld30x  _)) ?_
  have f31 := fb4.ext cb9
  have f32 := f31.chg cw11 (by omega)
  have f33 := f32.ext c17
  refine sx_store (vs := [.bool false, (.slice none 0 0), .int .i64 0]) rfl rfl f33 rfl Try.sizeOf30 (Nat.le_of_ble_eq_true rfl) (one_cons rfl (one_cons rfl (one_cons rfl one_nil))) (fun w30 sw30 fw30 cw30 => ?_)
  have zw30 := cw30.size
  have gw30 : Blk w30 b4 [.bool false, (.slice none 0 0), .int .i64 0] 30 := fw30
  refine sa rfl rfl rfl rfl ?_
  refine wl_nil (q_n (k29 _ _ ?_))
  refine sx_retc ?_
  refine sx_ret2 Try.results41 ⟨_, rfl, gw30.loadA (vs := [.bool false, (.slice none 0 0), .int .i64 0]) (look_lit rfl) Try.isAgg30 Try.sizeOf30⟩ rfl ?_
  rw [decR_no (by first | exact h22 | assumption)]
  have q34 := Chg.step (l := 0) (h := 0) (Chg.zero (l := 0) (h := 0) ((cb2.t cb4).t cb9)) cw11 (by omega)
  have q35 := Chg.step (l := 0) (h := 0) q34 c17 (by omega)
  have q36 := Chg.step (l := 0) (h := 0) q35 cw30 (by omega)
  exact ⟨_, rfl, Own.nil _ _ _ _ _, q36⟩

theorem c_natCmp {w : World} {va : Value} {lva uva : Nat} {zs : List Int} {vb : Value} {lvb uvb : Nat} {ys : List Int} (hva : Sl w lva uva va (zs)) (hvb : Sl w lvb uvb vb (ys)) (h63 : zs.length ≤ 4611686018427387904 ∧ ys.length ≤ 4611686018427387904) :
  Ret Try.prog 78 [va, vb] w fun v w' => v = .int .i64 (cmpL zs ys) ∧ Chg 0 0 w w' := by
 have hva0 := hva.fit
 have hvb0 := hvb.fit
 have zs0 : zs.drop zs.length = [] := by simp
 have ys0 : ys.drop ys.length = [] := by simp
 refine sx_enter Try.func78 rfl Try.ntmps78 (Nat.le_of_ble_eq_true rfl) ?_
 refine sx_seq fun K1 k1 => sx_region ?_
 refine sa rfl rfl rfl rfl ?_
 refine wl_nil (q_n (k1 _ _ ?_))
 refine sx_seq fun K2 k2 => ?_
 refine sx_seq fun K3 k3 => sx_region ?_
 refine sm rfl rfl rfl rfl ?_
 refine sx_pure rfl rfl rfl (px_len rfl Try.underlying22 hva0) ?_
 refine sm rfl rfl rfl rfl ?_
 refine sx_pure rfl rfl rfl (px_len rfl Try.underlying22 hvb0) ?_
 refine sx_pure rfl rfl rfl (px_ne rfl rfl) ?_
 refine wl_nil (q_n (k3 _ _ ?_))
 refine sx_condP rfl (fun h76 => ?_) (fun h76 => ?_)
 ·
  refine sx_seq fun K4 k4 => ?_
  refine sx_seq fun K5 k5 => sx_region ?_
  refine sm rfl rfl rfl rfl ?_
  refine sx_pure rfl rfl rfl (px_len rfl Try.underlying22 hva0) ?_
  refine sm rfl rfl rfl rfl ?_
  refine sx_pure rfl rfl rfl (px_len rfl Try.underlying22 hvb0) ?_
  refine sx_pure rfl rfl rfl (px_lt rfl rfl) ?_
  refine wl_nil (q_n (k5 _ _ ?_))
  refine sx_condP rfl (fun h77 => ?_) (fun h77 => ?_)
  ·
   refine sx_seq fun K6 k6 => sx_region ?_
   refine sa rfl rfl rfl rfl ?_
   refine wl_nil (q_n (k6 _ _ ?_))
   refine sx_retc ?_
   refine q_r (q_r (sx_ret1 Try.results78 rfl ?_))
   exact ⟨iEq (cmpL_short (by omega)).symm, (Chg.refl 0 0 _)⟩
  ·
   refine sx_skip ?_
   refine q_n (k4 _ _ ?_)
   refine sx_seq fun K7 k7 => sx_region ?_
   refine sa rfl rfl rfl rfl ?_
   refine wl_nil (q_n (k7 _ _ ?_))
   refine sx_retc ?_
   refine q_r (sx_ret1 Try.results78 rfl ?_)
   exact ⟨iEq (cmpL_long (by omega)).symm, (Chg.refl 0 0 _)⟩
 ·
  refine sx_skip ?_
  refine q_n (k2 _ _ ?_)
  refine sx_seq fun K8 k8 => ?_
  refine sx_seq fun K9 k9 => sx_region ?_
  refine sm rfl rfl rfl rfl ?_
  refine sx_pure rfl rfl rfl (px_len rfl Try.underlying22 hva0) ?_
  refine sx_pure rfl rfl rfl (px_sub rfl rfl (by omega)) ?_
  refine sa rfl rfl rfl rfl ?_
  refine wl_nil (q_n (k9 _ _ ?_))
  refine sx_block ?_
  have e00 : zs.length = ys.length := by omega
  have he0 : zs.drop zs.length = ys.drop zs.length := by rw [zs0, e00, ys0]
  refine sx_loop (fun mm aa w' => ∃ (k : Nat), Agr 41 [(0, va), (1, vb), (5, .int .i64 (↑k - 1))] aa ∧ Chg 0 0 w w' ∧ (mm = k) ∧ (k ≤ zs.length) ∧ (zs.drop k = ys.drop k)) (_) (fun a ha => ⟨zs.length, ha.sub (Sub.cons (t := 0) rfl (.cons (t := 1) rfl (.cons (t := 5) (look_int (t := 5) rfl (by first | omega | simp)) (.nil)))), Chg.refl _ _ _, rfl, by omega, he0⟩) ?_
  rintro mm aa wl10 ⟨k, hAwl10, cwl10, hm, hk, he⟩
  refine (show cw Try.prog 41 _ _ _ wl10 from ?_) aa hAwl10
  clear hAwl10
  have zwl10 := cwl10.size
  have hl : zs.length = ys.length := by omega
  refine sx_seq fun K11 k11 => ?_
  refine sx_seq fun K12 k12 => sx_region ?_
  refine sm rfl rfl rfl rfl ?_
  refine sx_pure rfl rfl rfl (px_ge rfl rfl) ?_
  refine wl_nil (q_n (k12 _ _ ?_))
  refine sx_condP rfl (fun h82 => ?_) (fun h82 => ?_)
  ·
   refine sx_skip ?_
   refine q_n (k11 _ _ ?_)
   refine sx_seq fun K13 k13 => ?_
   refine sx_block ?_
   refine sx_seq fun K14 k14 => ?_
   have f15 := hva0.ext cwl10
   have f16 := hvb0.ext cwl10
   refine dx_region (fun w' => Chg 0 0 wl10 w') (by kernel_rfl) (Chg.zero (Chg.drew _)) ?_
   have d17 := Chg.drew wl10
   have s17 : Chg 0 0 wl10 (World.drew wl10) := Chg.zero (Chg.drew _)
   have y17 : (World.drew wl10).heap.size = wl10.heap.size := rfl
   generalize World.drew wl10 = w17 at *
   have zw17 := d17.size
   refine dx_take 0 rfl rfl rfl rfl (by kernel_rfl) (by kernel_rfl) (by kernel_rfl) s17 (fun _ hS => px_move rfl) ?_
   refine dx_take 1 rfl rfl rfl rfl (by kernel_rfl) (by kernel_rfl) (by kernel_rfl) s17 (fun _ hS => px_move rfl) ?_
   refine dx_take 2 rfl rfl rfl rfl (by kernel_rfl) (by kernel_rfl) (by kernel_rfl) s17 (fun _ hS => px_index1 (j := (k - 1)) rfl rfl (by omega) Try.underlying22 Try.sizeOf3 ((f15).chg hS (by omega)) (by omega)) ?_
   refine dx_take 3 rfl rfl rfl rfl (by kernel_rfl) (by kernel_rfl) (by kernel_rfl) s17 (fun _ hS => px_load rfl (((f15).chg hS (by omega)).load1 (at_int (by omega)) Try.isAgg3)) ?_
   refine dx_take 4 rfl rfl rfl rfl (by kernel_rfl) (by kernel_rfl) (by kernel_rfl) s17 (fun _ hS => px_move rfl) ?_
   refine dx_take 5 rfl rfl rfl rfl (by kernel_rfl) (by kernel_rfl) (by kernel_rfl) s17 (fun _ hS => px_move rfl) ?_
   refine dx_take 6 rfl rfl rfl rfl (by kernel_rfl) (by kernel_rfl) (by kernel_rfl) s17 (fun _ hS => px_index1 (j := (k - 1)) rfl rfl (by omega) Try.underlying22 Try.sizeOf3 ((f16).chg hS (by omega)) (by omega)) ?_
   refine dx_take 7 rfl rfl rfl rfl (by kernel_rfl) (by kernel_rfl) (by kernel_rfl) s17 (fun _ hS => px_load rfl (((f16).chg hS (by omega)).load1 (at_int (by omega)) Try.isAgg3)) ?_
   refine dx_take 8 rfl rfl rfl rfl (by kernel_rfl) (by kernel_rfl) (by kernel_rfl) s17 (fun _ hS => px_ne rfl rfl) ?_
   refine dx_done (by kernel_rfl) ?_
   refine q_n (k14 _ _ ?_)
   refine sx_condP rfl (fun h83 => ?_) (fun h83 => ?_)
   ·
    refine sx_seq fun K18 k18 => ?_
    refine sx_seq fun K19 k19 => ?_
    have f20 := f15.ext d17
    have f21 := f16.ext d17
    refine dx_region (fun w' => Chg 0 0 w17 w') (by kernel_rfl) (Chg.zero (Chg.drew _)) ?_
    have d22 := Chg.drew w17
    have s22 : Chg 0 0 w17 (World.drew w17) := Chg.zero (Chg.drew _)
    have y22 : (World.drew w17).heap.size = w17.heap.size := rfl
    generalize World.drew w17 = w22 at *
    have zw22 := d22.size
    refine dx_take 0 rfl rfl rfl rfl (by kernel_rfl) (by kernel_rfl) (by kernel_rfl) s22 (fun _ hS => px_move rfl) ?_
    refine dx_take 1 rfl rfl rfl rfl (by kernel_rfl) (by kernel_rfl) (by kernel_rfl) s22 (fun _ hS => px_move rfl) ?_
    refine dx_take 2 rfl rfl rfl rfl (by kernel_rfl) (by kernel_rfl) (by kernel_rfl) s22 (fun _ hS => px_index1 (j := (k - 1)) rfl rfl (by omega) Try.underlying22 Try.sizeOf3 ((f20).chg hS (by omega)) (by omega)) ?_
    refine dx_take 3 rfl rfl rfl rfl (by kernel_rfl) (by kernel_rfl) (by kernel_rfl) s22 (fun _ hS => px_load rfl (((f20).chg hS (by omega)).load1 (at_int (by omega)) Try.isAgg3)) ?_
    refine dx_take 4 rfl rfl rfl rfl (by kernel_rfl) (by kernel_rfl) (by kernel_rfl) s22 (fun _ hS => px_move rfl) ?_
    refine dx_take 5 rfl rfl rfl rfl (by kernel_rfl) (by kernel_rfl) (by kernel_rfl) s22 (fun _ hS => px_move rfl) ?_
    refine dx_take 6 rfl rfl rfl rfl (by kernel_rfl) (by kernel_rfl) (by kernel_rfl) s22 (fun _ hS => px_index1 (j := (k - 1)) rfl rfl (by omega) Try.underlying22 Try.sizeOf3 ((f21).chg hS (by omega)) (by omega)) ?_
    refine dx_take 7 rfl rfl rfl rfl (by kernel_rfl) (by kernel_rfl) (by kernel_rfl) s22 (fun _ hS => px_load rfl (((f21).chg hS (by omega)).load1 (at_int (by omega)) Try.isAgg3)) ?_
    refine dx_take 8 rfl rfl rfl rfl (by kernel_rfl) (by kernel_rfl) (by kernel_rfl) s22 (fun _ hS => px_lt rfl rfl) ?_
    refine dx_done (by kernel_rfl) ?_
    refine q_n (k19 _ _ ?_)
    refine sx_sub (Sub.cons (t := 0) rfl (.cons (t := 1) rfl (.cons (t := 5) rfl (.cons (t := 40) rfl (.nil))))) ?_
    refine sx_condP rfl (fun h84 => ?_) (fun h84 => ?_)
    ·
     refine sx_seq fun K23 k23 => sx_region ?_
     refine sa rfl rfl rfl rfl ?_
     refine wl_nil (q_n (k23 _ _ ?_))
     refine sx_retc ?_
     refine q_r (q_br (q_r (q_r (q_br (q_r (sx_ret1 Try.results78 rfl ?_))))))
     have hlt := cmpL_lt hl (k := k - 1) (by omega) (by rw [Nat.sub_add_cancel (by omega)]; exact he) (h84)
     exact ⟨iEq hlt.symm, ((cwl10.t d17).t d22)⟩
    ·
     refine sx_skip ?_
     refine q_n (k18 _ _ ?_)
     refine sx_seq fun K24 k24 => sx_region ?_
     refine sa rfl rfl rfl rfl ?_
     refine wl_nil (q_n (k24 _ _ ?_))
     refine sx_retc ?_
     refine q_br (q_r (q_r (q_br (q_r (sx_ret1 Try.results78 rfl ?_)))))
     have hlt := cmpL_gt hl (k := k - 1) (by omega) (by rw [Nat.sub_add_cancel (by omega)]; exact he) (by omega)
     exact ⟨iEq hlt.symm, ((cwl10.t d17).t d22)⟩
   ·
    refine sx_skip ?_
    refine q_bn (q_n (k13 _ _ ?_))
    refine sx_region ?_
    refine sm rfl rfl rfl rfl ?_
    refine sx_pure rfl rfl rfl (px_sub rfl rfl (by omega)) ?_
    refine sa rfl rfl rfl rfl ?_
    refine wl_nil ?_
    exact fun a ha => ⟨_, by omega, (k - 1), ha.sub (Sub.cons (t := 0) rfl (.cons (t := 1) rfl (.cons (t := 5) (look_int (t := 5) rfl (by first | omega | simp)) (.nil)))), (cwl10.t d17), rfl, by omega, drop_succ_eq (by omega) (by omega) (by rw [Nat.sub_add_cancel (by omega)]; exact he) (by omega)⟩
  ·
   refine sx_exit ?_
   refine q_e (q_e (q_bx (q_n (k8 _ _ ?_))))
   refine sx_seq fun K25 k25 => sx_region ?_
   refine sa rfl rfl rfl rfl ?_
   refine wl_nil (q_n (k25 _ _ ?_))
   refine sx_retc ?_
   refine sx_ret1 Try.results78 rfl ?_
   have e1 : k = 0 := by omega
   subst e1
   have e2 : zs = ys := by simpa using he
   subst e2
   exact ⟨iEq (cmpL_self zs).symm, cwl10⟩

theorem c_natCopy {w : World} {va : Value} {lva uva : Nat} {zs : List Int} (hva : Sl w lva uva va (zs)) (h63 : zs.length ≤ 1048576) :
  Ret Try.prog 79 [va] w fun v w' => ∃ s, v = s ∧ OwnI w' w.heap.size w'.heap.size s intT (zs) ∧ Chg 0 0 w w' := by
 have hva0 := hva.fit
 refine sx_enter Try.func79 rfl Try.ntmps79 (Nat.le_of_ble_eq_true rfl) ?_
 refine sx_seq fun K1 k1 => sx_region ?_
 refine sa rfl rfl rfl rfl ?_
 refine wl_nil (q_n (k1 _ _ ?_))
 refine sx_seq fun K2 k2 => sx_region ?_
 refine sx_lit0 rfl xelt22 (fun s3 ws3 ss3 fs3 cs3 => ?_)
 have zws3 := cs3.size
 refine sm rfl rfl rfl rfl ?_
 have f5 := hva0.ext cs3
 refine sx_append rfl xelt22 rfl rfl fs3 f5 one_int (by omega) (by omega) (by unfold maxLen; omega) (fun a4 w4 fw4 cw4 => ?_)
 have nw4 := Own.norm (f := (Value.int .i64)) (zs := zs) fw4
 have zw4 := cw4.size
 refine sa rfl rfl rfl rfl ?_
 refine wl_nil (q_n (k2 _ _ ?_))
 refine sx_retc ?_
 refine sx_ret1 Try.results79 rfl ?_
 have q6 := Chg.step (l := 0) (h := 0) (Chg.zero (l := 0) (h := 0) cs3) cw4 (by omega)
 exact ⟨_, rfl, Own.mono nw4 (by omega) (by omega), q6⟩

theorem c_natSmall {w : World} {va : Value} {lva uva : Nat} {m : Nat} {d : Int} (hva : Sl w lva uva va (dg m)) (hbm : (dg m).length ≤ 1000) (hd : 1 ≤ d ∧ d ≤ 999999999) :
  Ret Try.prog 80 [va, .int .i64 d] w fun v w' => ∃ s, v = .tuple #[s, .int .i64 (((m % (d).toNat : Nat) : Int))] ∧ OwnI w' w.heap.size w'.heap.size s intT (dg (m / (d).toNat)) ∧ Chg 0 0 w w' := by
 have hva0 := hva.fit
 refine sx_enter Try.func80 rfl Try.ntmps80 (Nat.le_of_ble_eq_true rfl) ?_
 refine sx_seq fun K1 k1 => sx_region ?_
 refine sa rfl rfl rfl rfl ?_
 refine sa rfl rfl rfl rfl ?_
 refine wl_nil (q_n (k1 _ _ ?_))
 refine sx_seq fun K2 k2 => sx_region ?_
 refine sm rfl rfl rfl rfl ?_
 refine sx_pure rfl rfl rfl (px_len rfl Try.underlying22 hva0) ?_
 refine sx_make (c := (dg m).length) rfl xelt22 (rfl) (rfl) (by omega) (by unfold maxLen; omega) (fun s3 ws3 fs3 cs3 ls3 => ?_)
 have ns3 := fs3.made
 have zws3 := cs3.size
 refine sa rfl rfl rfl rfl ?_
 refine wl_nil (q_n (k2 _ _ ?_))
 refine sx_seq fun K4 k4 => sx_region ?_
 refine sa rfl rfl rfl rfl ?_
 refine wl_nil (q_n (k4 _ _ ?_))
 refine sx_seq fun K5 k5 => ?_
 refine sx_seq fun K6 k6 => sx_region ?_
 refine sm rfl rfl rfl rfl ?_
 have f7 := hva0.ext cs3
 refine sx_pure rfl rfl rfl (px_len rfl Try.underlying22 f7) ?_
 refine sx_pure rfl rfl rfl (px_sub rfl rfl (by omega)) ?_
 refine sa rfl rfl rfl rfl ?_
 refine wl_nil (q_n (k6 _ _ ?_))
 refine sx_block ?_
 refine sx_loop (fun mm aa w' => ∃ (k : Nat) (os : List Int) (r : Int), Agr 38 [(0, va), (1, .int .i64 d), (6, s3), (7, .int .i64 r), (8, .int .i64 (↑k - 1))] aa ∧ Chg w.heap.size ws3.heap.size ws3 w' ∧ Own w' w.heap.size ws3.heap.size s3 intT os.length 1 (os.map (Value.int .i64)) ∧ (mm = k) ∧ (k ≤ (dg m).length) ∧ (os.length = (dg m).length) ∧ (Lm os) ∧ (0 ≤ r ∧ r < d) ∧ (vl ((dg m).drop k) = d.toNat * vl (os.drop k) + r.toNat)) (_) (fun a ha => ⟨(dg m).length, List.replicate (dg m).length 0, 0, ha.sub (Sub.cons (t := 0) rfl (.cons (t := 1) rfl (.cons (t := 6) rfl (.cons (t := 7) (look_int (t := 7) rfl (by first | omega | simp)) (.cons (t := 8) (look_int (t := 8) rfl (by first | omega | simp)) (.nil)))))), Chg.refl _ _ _, ns3, rfl, by omega, by simp, Lm.replicate _, by omega, by simp [vl]⟩) ?_
 rintro mm aa wl8 ⟨k, os, r, hAwl8, cwl8, hs_s3, hm, hk, hos, hlm, hr, hv⟩
 refine (show cw Try.prog 38 _ _ _ wl8 from ?_) aa hAwl8
 clear hAwl8
 have zwl8 := cwl8.size
 have am := (Lm_dg m).getD (k - 1)
 have hq := small_q hr.1 hr.2 am.1 am.2
 refine sx_seq fun K9 k9 => ?_
 refine sx_seq fun K10 k10 => sx_region ?_
 refine sm rfl rfl rfl rfl ?_
 refine sx_pure rfl rfl rfl (px_ge rfl rfl) ?_
 refine wl_nil (q_n (k10 _ _ ?_))
 refine sx_condP rfl (fun h7 => ?_) (fun h7 => ?_)
 ·
  refine sx_skip ?_
  refine q_n (k9 _ _ ?_)
  refine sx_seq fun K11 k11 => ?_
  refine sx_block ?_
  refine sx_seq fun K12 k12 => sx_region ?_
  refine sm rfl rfl rfl rfl ?_
  refine sx_pure rfl rfl rfl (px_mul rfl rfl (by omega)) ?_
  refine sm rfl rfl rfl rfl ?_
  refine sm rfl rfl rfl rfl ?_
  have f13 := f7.chg cwl8 (by omega)
  refine sx_pure rfl rfl rfl (px_index1 (j := (k - 1)) rfl rfl (by omega) Try.underlying22 Try.sizeOf3 f13 (by omega)) ?_
  refine sx_pure rfl rfl rfl (px_load rfl (f13.load1 (at_int (by omega)) Try.isAgg3)) ?_
  refine sx_pure rfl rfl rfl (px_add rfl rfl (by omega)) ?_
  refine sa rfl rfl rfl rfl ?_
  refine wl_nil (q_n (k12 _ _ ?_))
  refine sx_seq fun K14 k14 => sx_region ?_
  refine sm rfl rfl rfl rfl ?_
  refine sm rfl rfl rfl rfl ?_
  refine sm rfl rfl rfl rfl ?_
  refine sm rfl rfl rfl rfl ?_
  refine sx_pure rfl rfl rfl (px_quo rfl rfl (by omega) (by omega) (by omega)) ?_
  refine sx_pure rfl rfl rfl (px_index1 (j := (k - 1)) rfl rfl (by omega) Try.underlying22 Try.sizeOf3 hs_s3.sv (by omega)) ?_
  refine sx_storeO rfl rfl hs_s3 (by first | omega | (simp only [List.length_map]; omega)) Try.sizeOf3 rfl (fun w15 sw15 fw15 cw15 => ?_)
  have zw15 := cw15.size
  have nw15 := fw15.set
  refine wl_nil (q_n (k14 _ _ ?_))
  refine sx_sub (Sub.cons (t := 0) rfl (.cons (t := 1) rfl (.cons (t := 6) rfl (.cons (t := 7) rfl (.cons (t := 8) rfl (.nil)))))) ?_
  refine sx_region ?_
  refine sm rfl rfl rfl rfl ?_
  refine sm rfl rfl rfl rfl ?_
  refine sx_pure rfl rfl rfl (px_rem rfl rfl (by omega) (by omega)) ?_
  refine sa rfl rfl rfl rfl ?_
  refine wl_nil ?_
  refine q_bn (q_n (k11 _ _ ?_))
  refine sx_region ?_
  refine sm rfl rfl rfl rfl ?_
  refine sx_pure rfl rfl rfl (px_sub rfl rfl (by omega)) ?_
  refine sa rfl rfl rfl rfl ?_
  refine wl_nil ?_
  have q16 := Chg.step (l := w.heap.size) (h := ws3.heap.size) cwl8 cw15 (by omega)
  have hst := small_step (X := ((r * 1000000000) + ((dg m).getD (k - 1) 0))) (by omega) (by omega) (by omega) hr am rfl hv
  exact fun a ha => ⟨_, by omega, (k - 1), ((os).set (k - 1) (((r * 1000000000) + ((dg m).getD (k - 1) 0)) / d)), (((r * 1000000000) + ((dg m).getD (k - 1) 0)) % d), ha.sub (Sub.cons (t := 0) rfl (.cons (t := 1) rfl (.cons (t := 6) rfl (.cons (t := 7) (look_int (t := 7) rfl (by first | omega | simp)) (.cons (t := 8) (look_int (t := 8) rfl (by first | omega | simp)) (.nil)))))), q16, (nw15.mono (by omega) (by omega)), rfl, by omega, by simpa using hos, hlm.set _ hq.1 hq.2.1, hq.2.2, hst⟩
 ·
  refine sx_exit ?_
  refine q_e (q_e (q_bx (q_n (k5 _ _ ?_))))
  refine sx_seq fun K17 k17 => sx_region ?_
  refine sm rfl rfl rfl rfl ?_
  refine sx_call rfl rfl Try.call83 (c_trim hs_s3 (by assumption) (by first | omega | (simp only [List.length_append, List.length_set, List.length_replicate, List.length_cons, List.length_nil] at *; omega))) (fun v18 w18 p18 => ?_)
  obtain ⟨s18, rfl, os_18, c18⟩ := p18
  have zw18 := c18.size
  refine sm rfl rfl rfl rfl ?_
  refine sa rfl rfl rfl rfl ?_
  refine sa rfl rfl rfl rfl ?_
  refine wl_nil (q_n (k17 _ _ ?_))
  refine sx_retc ?_
  refine sx_ret2 Try.results80 rfl rfl ?_
  have e0 : k = 0 := by omega
  subst e0
  have he := div_end (m := m) (d := d.toNat) (v := vl os) (r := r.toNat) (by rw [List.drop_zero, List.drop_zero, vl_dg] at hv; exact hv) (show r.toNat < d.toNat by omega)
  have hr2 := os_18
  rw [he.1] at hr2
  have er : r = ((m % d.toNat : Nat) : Int) := by omega
  have q19 := Chg.step (l := 0) (h := 0) (Chg.zero (l := 0) (h := 0) cs3) cwl8 (by omega)
  have q20 := Chg.step (l := 0) (h := 0) q19 c18 (by omega)
  exact ⟨_, by rw [er], hr2.mono (by omega) (by omega), q20⟩

theorem c_natOf {w : World} {n : Int} (hn : 0 ≤ n ∧ n ≤ 18446744073709551615) :
  Ret Try.prog 111 [.int .u64 n] w fun v w' => ∃ s, v = s ∧ OwnI w' w.heap.size w'.heap.size s intT (dg (n).toNat) ∧ Chg 0 0 w w' := by
 have l0 := len_u64 (n := n) (by omega)
 refine sx_enter Try.func111 rfl Try.ntmps111 (Nat.le_of_ble_eq_true rfl) ?_
 refine sx_seq fun K1 k1 => sx_region ?_
 refine sa rfl rfl rfl rfl ?_
 refine wl_nil (q_n (k1 _ _ ?_))
 refine sx_seq fun K2 k2 => sx_region ?_
 refine sx_lit0 rfl xelt22 (fun s3 ws3 ss3 fs3 cs3 => ?_)
 have zws3 := cs3.size
 refine sa rfl rfl rfl rfl ?_
 refine wl_nil (q_n (k2 _ _ ?_))
 refine sx_seq fun K4 k4 => ?_
 refine sx_block ?_
 refine sx_loop (fun mm aa w' => ∃ (s : Value) (os : List Int) (m : Int), Agr 16 [(0, .int .u64 m), (3, s)] aa ∧ Chg w.heap.size ws3.heap.size ws3 w' ∧ Own w' w.heap.size w'.heap.size s intT os.length 1 (os.map (Value.int .i64)) ∧ (mm = m.toNat) ∧ (Lm os) ∧ (0 ≤ m ∧ m ≤ n) ∧ (vl os + Bs ^ os.length * m.toNat = n.toNat) ∧ (os.length + (dg m.toNat).length = (dg n.toNat).length) ∧ (os.length = 0 ∨ Bs ^ (os.length - 1) ≤ n.toNat)) (_) (fun a ha => ⟨s3, [], n, ha.sub (Sub.cons (t := 0) rfl (.cons (t := 3) rfl (.nil))), Chg.refl _ _ _, (fs3.mono (by omega) (by omega)), rfl, Lm.nil, by omega, by simp [vl], by simp, .inl rfl⟩) ?_
 rintro mm aa wl5 ⟨s, os, m, hAwl5, cwl5, hs_s, hm, hlm, hb, hv, hln, hl⟩
 refine (show cw Try.prog 16 _ _ _ wl5 from ?_) aa hAwl5
 clear hAwl5
 have zwl5 := cwl5.size
 refine sx_seq fun K6 k6 => ?_
 refine sx_seq fun K7 k7 => sx_region ?_
 refine sm rfl rfl rfl rfl ?_
 refine sx_pure rfl rfl rfl (px_gt rfl rfl) ?_
 refine wl_nil (q_n (k7 _ _ ?_))
 refine sx_condP rfl (fun h47 => ?_) (fun h47 => ?_)
 ·
  refine sx_skip ?_
  refine q_n (k6 _ _ ?_)
  refine sx_block ?_
  refine sx_seq fun K8 k8 => sx_region ?_
  refine sm rfl rfl rfl rfl ?_
  refine sm rfl rfl rfl rfl ?_
  refine sx_pure rfl rfl rfl (px_remU rfl rfl (by omega) (by omega)) ?_
  refine sx_pure rfl rfl rfl (px_convI Try.underlying102 Try.underlying3 rfl (by omega)) ?_
  refine sx_lit1 rfl xelt22 rfl rfl (fun s9 ws9 ss9 fs9 cs9 => ?_)
  have ns9 := Own.norm (f := (Value.int .i64)) (zs := [m % 1000000000]) fs9
  have zws9 := cs9.size
  have f11 := hs_s.ext cs9
  refine sx_append rfl xelt22 rfl rfl f11 ns9.sv one_int (by omega) (by simp only [List.length_cons, List.length_nil]; omega) (by unfold maxLen; simp only [List.length_cons, List.length_nil]; omega) (fun a10 w10 fw10 cw10 => ?_)
  have nw10 := Own.app (f := (Value.int .i64)) (a := os) (b := [m % 1000000000]) fw10
  have zw10 := cw10.size
  refine sa rfl rfl rfl rfl ?_
  refine wl_nil (q_n (k8 _ _ ?_))
  refine sx_region ?_
  refine sm rfl rfl rfl rfl ?_
  refine sx_pure rfl rfl rfl (px_quoU rfl rfl (by omega) (by omega) (by omega)) ?_
  refine sa rfl rfl rfl rfl ?_
  refine wl_nil ?_
  have q12 := Chg.step (l := w.heap.size) (h := ws3.heap.size) cwl5 cs9 (by omega)
  have q13 := Chg.step (l := w.heap.size) (h := ws3.heap.size) q12 cw10 (by omega)
  have hmd := mod_bd (s := m) (by omega)
  have hm0 : m / 1000000000 < m := by omega
  exact q_bn (fun a ha => ⟨_, by omega, a10, (os ++ ([m % 1000000000])), (m / 1000000000), ha.sub (Sub.cons (t := 0) rfl (.cons (t := 3) rfl (.nil))), q13, (nw10.mono (by omega) (by omega)), rfl, hlm.append (Lm.single hmd.1 hmd.2), by omega, of_stepI (by omega) hv, by have h9 := of_ln (m := m) (by omega); simp only [List.length_append, List.length_singleton]; omega, .inr (of_len (by omega) hv)⟩)
 ·
  refine sx_exit ?_
  refine q_e (q_e (q_bx (q_n (k4 _ _ ?_))))
  refine sx_seq fun K14 k14 => sx_region ?_
  refine sm rfl rfl rfl rfl ?_
  refine sa rfl rfl rfl rfl ?_
  refine wl_nil (q_n (k14 _ _ ?_))
  refine sx_retc ?_
  refine sx_ret1 Try.results111 rfl ?_
  have hm0 : m = 0 := by omega
  subst hm0
  have hd : os = dg n.toNat := dg_of hlm (by simpa using hv) hl
  subst hd
  have q15 := Chg.step (l := 0) (h := 0) (Chg.zero (l := 0) (h := 0) cs3) cwl5 (by omega)
  exact ⟨_, rfl, (Own.mono hs_s (by omega) (by omega)), q15⟩

theorem c_iNatOf {w : World} {n : Int} (hn : 0 ≤ n ∧ n ≤ 9223372036854775807) :
  Ret Try.prog 81 [.int .i64 n] w fun v w' => ∃ s, v = s ∧ OwnI w' w.heap.size w'.heap.size s intT (dg (n).toNat) ∧ Chg 0 0 w w' := by
 refine sx_enter Try.func81 rfl Try.ntmps81 (Nat.le_of_ble_eq_true rfl) ?_
 refine sx_seq fun K1 k1 => sx_region ?_
 refine sa rfl rfl rfl rfl ?_
 refine wl_nil (q_n (k1 _ _ ?_))
 refine sx_seq fun K2 k2 => ?_
 refine sx_seq fun K3 k3 => sx_region ?_
 refine sm rfl rfl rfl rfl ?_
 refine sx_pure rfl rfl rfl (px_lt rfl rfl) ?_
 refine wl_nil (q_n (k3 _ _ ?_))
 have h56 : ¬ ((n : Int) < 0) := by omega
 refine sx_condPF rfl h56 ?_
 refine sx_skip ?_
 refine q_n (k2 _ _ ?_)
 refine sx_seq fun K4 k4 => sx_region ?_
 refine sm rfl rfl rfl rfl ?_
 refine sx_pure rfl rfl rfl (px_convU Try.underlying3 Try.underlying102 rfl (by omega)) ?_
 refine sx_call rfl rfl Try.call111 (c_natOf (by omega)) (fun v5 w5 p5 => ?_)
 obtain ⟨s5, rfl, os_5, c5⟩ := p5
 have zw5 := c5.size
 refine sa rfl rfl rfl rfl ?_
 refine wl_nil (q_n (k4 _ _ ?_))
 refine sx_retc ?_
 refine sx_ret1 Try.results81 rfl ?_
 exact ⟨_, rfl, (Own.mono os_5 (by omega) (by omega)), c5⟩

theorem c_subTimes {w : World} {va : Value} {lva uva : Nat} {preva sufva : List Value} {zs : List Int} {vb : Value} {lvb uvb : Nat} {ys : List Int} {q : Int} (hva : Win w lva uva va intT preva sufva zs) (hvb : Sl w lvb uvb vb (ys)) (hd : uvb ≤ lva ∨ uva ≤ lvb) (hzl : zs.length = ys.length + 1) (hz : Lm zs) (hy : Lm ys) (hq : 0 ≤ q ∧ q ≤ 999999999) (h63 : zs.length ≤ 1000) :
  Ret Try.prog 112 [va, vb, .int .i64 q] w fun v w' => ∃ os, v = .bool (decide ((os).getD (ys).length 0 < 0)) ∧ Win w' lva uva va intT preva sufva (os) ∧ ((os).length = (zs).length ∧ Lm ((os).take (ys).length) ∧ ((vl ((os).take (ys).length) : Nat) : Int) + ((Bs ^ (ys).length : Nat) : Int) * (os).getD (ys).length 0 = ((vl ((zs).take (ys).length) : Nat) : Int) + ((Bs ^ (ys).length : Nat) : Int) * (zs).getD (ys).length 0 - q * ((vl ys : Nat) : Int)) ∧ Chg lva uva w w' := by
 refine sx_enter Try.func112 rfl Try.ntmps112 (Nat.le_of_ble_eq_true rfl) ?_
 refine sx_seq fun K1 k1 => sx_region ?_
 refine sa rfl rfl rfl rfl ?_
 refine wl_nil (q_n (k1 _ _ ?_))
 refine sx_seq fun K2 k2 => sx_region ?_
 refine sa rfl rfl rfl rfl ?_
 refine wl_nil (q_n (k2 _ _ ?_))
 refine sx_seq fun K3 k3 => ?_
 refine sx_seq fun K4 k4 => sx_region ?_
 refine sm rfl rfl rfl rfl ?_
 refine sx_pure rfl rfl rfl (px_len rfl Try.underlying22 hvb) ?_
 refine sm rfl rfl rfl rfl ?_
 refine wl_nil (q_n (k4 _ _ ?_))
 refine sx_block ?_
 refine sx_loop (fun mm aa w' => ∃ (k : Nat) (os : List Int) (c : Int), Agr 58 [(0, va), (1, vb), (2, .int .i64 q), (7, .int .i64 c), (11, vb), (12, .int .i64 ↑ys.length), (13, .int .i64 ↑k)] aa ∧ Chg lva uva w w' ∧ Win w' lva uva va intT preva sufva (os) ∧ (mm = ys.length - k) ∧ (k ≤ ys.length) ∧ (os.length = zs.length) ∧ (Lm (os.take k)) ∧ (os.drop k = zs.drop k) ∧ (0 ≤ c ∧ c < 1000000000) ∧ (vl (zs.take k) + Bs ^ k * c.toNat = vl (os.take k) + q.toNat * vl (ys.take k))) (_) (fun a ha => ⟨0, zs, 0, ha.sub (Sub.cons (t := 0) rfl (.cons (t := 1) rfl (.cons (t := 2) rfl (.cons (t := 7) (look_int (t := 7) rfl (by first | omega | simp)) (.cons (t := 11) rfl (.cons (t := 12) (look_int (t := 12) rfl (by first | omega | simp)) (.cons (t := 13) (look_int (t := 13) rfl (by first | omega | simp)) (.nil)))))))), Chg.refl _ _ _, hva, rfl, by omega, rfl, Lm.nil, rfl, by omega, by simp [vl]⟩) ?_
 rintro mm aa wl5 ⟨k, os, c, hAwl5, cwl5, hs_va, hm, hk, ho, hlm, hdr, hc, hv⟩
 refine (show cw Try.prog 58 _ _ _ wl5 from ?_) aa hAwl5
 clear hAwl5
 have zwl5 := cwl5.size
 have un := hz.getD k
 have yn := hy.getD k
 have hxy := mul_limb yn.1 yn.2 hq.1 (by omega)
 have ue := getD_drop hdr
 refine sx_seq fun K6 k6 => sx_region ?_
 refine sx_pure rfl rfl rfl (px_lt rfl rfl) ?_
 refine wl_nil (q_n (k6 _ _ ?_))
 refine sx_seq fun K7 k7 => ?_
 refine sx_condP rfl (fun h57 => ?_) (fun h57 => ?_)
 ·
  refine sx_skip ?_
  refine q_n (k7 _ _ ?_)
  refine sx_seq fun K8 k8 => ?_
  refine sx_block ?_
  refine sx_seq fun K9 k9 => sx_region ?_
  refine sm rfl rfl rfl rfl ?_
  have f10 := hvb.chg cwl5 (by omega)
  refine sx_pure rfl rfl rfl (px_index1 (j := k) rfl rfl (by omega) Try.underlying22 Try.sizeOf3 f10 (by first | omega | (simp only [List.length_set]; omega))) ?_
  refine sx_pure rfl rfl rfl (px_load rfl (f10.load1 (at_int (by first | omega | (simp only [List.length_set]; omega))) Try.isAgg3)) ?_
  refine sa rfl rfl rfl rfl ?_
  refine sa rfl rfl rfl rfl ?_
  refine wl_nil (q_n (k9 _ _ ?_))
  refine sx_seq fun K11 k11 => sx_region ?_
  refine sm rfl rfl rfl rfl ?_
  refine sm rfl rfl rfl rfl ?_
  refine sx_pure rfl rfl rfl (px_index1 (j := k) rfl rfl (by omega) Try.underlying22 Try.sizeOf3 hs_va.sv (by first | omega | (simp only [List.length_set]; omega))) ?_
  refine sx_pure rfl rfl rfl (px_load rfl (hs_va.sv.load1 (at_int (by first | omega | (simp only [List.length_set]; omega))) Try.isAgg3)) ?_
  refine sm rfl rfl rfl rfl ?_
  refine sm rfl rfl rfl rfl ?_
  refine sx_pure rfl rfl rfl (px_mul rfl rfl (by omega)) ?_
  refine sx_pure rfl rfl rfl (px_sub rfl rfl (by omega)) ?_
  refine sm rfl rfl rfl rfl ?_
  refine sx_pure rfl rfl rfl (px_sub rfl rfl (by omega)) ?_
  refine sa rfl rfl rfl rfl ?_
  refine wl_nil (q_n (k11 _ _ ?_))
  refine sx_sub (Sub.cons (t := 0) rfl (.cons (t := 1) rfl (.cons (t := 2) rfl (.cons (t := 7) rfl (.cons (t := 8) rfl (.cons (t := 10) rfl (.cons (t := 11) rfl (.cons (t := 12) rfl (.cons (t := 13) rfl (.nil)))))))))) ?_
  refine sx_seq fun K12 k12 => sx_region ?_
  refine sa rfl rfl rfl rfl ?_
  refine wl_nil (q_n (k12 _ _ ?_))
  refine sx_seq fun K13 k13 => ?_
  refine sx_seq fun K14 k14 => sx_region ?_
  refine sm rfl rfl rfl rfl ?_
  refine sx_pure rfl rfl rfl (px_lt rfl rfl) ?_
  refine wl_nil (q_n (k14 _ _ ?_))
  refine sx_condP rfl (fun h60 => ?_) (fun h60 => ?_)
  ·
   refine sx_seq fun K15 k15 => sx_region ?_
   refine sm rfl rfl rfl rfl ?_
   refine sx_pure rfl rfl rfl (px_neg rfl (by omega)) ?_
   refine sx_pure rfl rfl rfl (px_add rfl rfl (by omega)) ?_
   refine sx_pure rfl rfl rfl (px_sub rfl rfl (by omega)) ?_
   refine sx_pure rfl rfl rfl (px_quo rfl rfl (by omega) (by omega) (by omega)) ?_
   refine sa rfl rfl rfl rfl ?_
   refine wl_nil (q_n (k15 _ _ ?_))
   refine sx_sub (Sub.cons (t := 0) rfl (.cons (t := 1) rfl (.cons (t := 2) rfl (.cons (t := 7) rfl (.cons (t := 8) rfl (.cons (t := 10) rfl (.cons (t := 11) rfl (.cons (t := 12) rfl (.cons (t := 13) rfl (.nil)))))))))) ?_
   refine sx_region ?_
   refine sm rfl rfl rfl rfl ?_
   refine sm rfl rfl rfl rfl ?_
   refine sx_pure rfl rfl rfl (px_mul rfl rfl (by omega)) ?_
   refine sx_pure rfl rfl rfl (px_add rfl rfl (by omega)) ?_
   refine sa rfl rfl rfl rfl ?_
   refine wl_nil (q_n (k13 _ _ ?_))
   refine sx_region ?_
   refine sm rfl rfl rfl rfl ?_
   refine sm rfl rfl rfl rfl ?_
   refine sm rfl rfl rfl rfl ?_
   refine sx_pure rfl rfl rfl (px_index1 (j := k) rfl rfl (by omega) Try.underlying22 Try.sizeOf3 hs_va.sv (by first | omega | (simp only [List.length_set]; omega))) ?_
   refine sx_storeW rfl rfl hs_va (by first | omega | (simp only [List.length_set]; omega)) Try.sizeOf3 (fun w16 sw16 fw16 cw16 => ?_)
   have zw16 := cw16.size
   refine wl_nil ?_
   refine q_bn (q_n (k8 _ _ ?_))
   refine sx_sub (Sub.cons (t := 0) rfl (.cons (t := 1) rfl (.cons (t := 2) rfl (.cons (t := 7) rfl (.cons (t := 11) rfl (.cons (t := 12) rfl (.cons (t := 13) rfl (.nil)))))))) ?_
   refine sx_region ?_
   refine sx_pure rfl rfl rfl (px_add rfl rfl (by omega)) ?_
   refine sm rfl rfl rfl rfl ?_
   refine wl_nil ?_
   have q17 := Chg.step (l := lva) (h := uva) cwl5 cw16 (by omega)
   have hxl : (0 : Int) ≤ (((((os).getD k 0) - (((ys).getD k 0) * q)) - c) + (((((-((((os).getD k 0) - (((ys).getD k 0) * q)) - c)) + 1000000000) - 1) / 1000000000) * 1000000000)) ∧ (((((os).getD k 0) - (((ys).getD k 0) * q)) - c) + (((((-((((os).getD k 0) - (((ys).getD k 0) * q)) - c)) + 1000000000) - 1) / 1000000000) * 1000000000)) < 1000000000 := by omega
   have hcl : (0 : Int) ≤ ((((-((((os).getD k 0) - (((ys).getD k 0) * q)) - c)) + 1000000000) - 1) / 1000000000) ∧ ((((-((((os).getD k 0) - (((ys).getD k 0) * q)) - c)) + 1000000000) - 1) / 1000000000) < (1000000000 : Int) := by omega
   have hnx := subt_next (ys := ys) (x := (((((os).getD k 0) - (((ys).getD k 0) * q)) - c) + (((((-((((os).getD k 0) - (((ys).getD k 0) * q)) - c)) + 1000000000) - 1) / 1000000000) * 1000000000))) (c' := ((((-((((os).getD k 0) - (((ys).getD k 0) * q)) - c)) + 1000000000) - 1) / 1000000000)) (by omega) hdr hq.1 hc.1 hcl.1 hxl un.1 yn.1 (by omega) hv
   exact fun a ha => ⟨_, by omega, (k + 1), ((os).set k (((((os).getD k 0) - (((ys).getD k 0) * q)) - c) + (((((-((((os).getD k 0) - (((ys).getD k 0) * q)) - c)) + 1000000000) - 1) / 1000000000) * 1000000000))), ((((-((((os).getD k 0) - (((ys).getD k 0) * q)) - c)) + 1000000000) - 1) / 1000000000), ha.sub (Sub.cons (t := 0) rfl (.cons (t := 1) rfl (.cons (t := 2) rfl (.cons (t := 7) (look_int (t := 7) rfl (by first | omega | simp)) (.cons (t := 11) rfl (.cons (t := 12) rfl (.cons (t := 13) (look_int (t := 13) rfl (by first | omega | simp)) (.nil)))))))), q17, (fw16.mono (by omega) (by omega)), rfl, by omega, by rw [List.length_set]; exact ho, Lm_take_set hlm (by omega) hxl.1 hxl.2, drop_set_succ hdr, hcl, hnx⟩
  ·
   refine sx_skip ?_
   refine q_n (k13 _ _ ?_)
   refine sx_region ?_
   refine sm rfl rfl rfl rfl ?_
   refine sm rfl rfl rfl rfl ?_
   refine sm rfl rfl rfl rfl ?_
   refine sx_pure rfl rfl rfl (px_index1 (j := k) rfl rfl (by omega) Try.underlying22 Try.sizeOf3 hs_va.sv (by first | omega | (simp only [List.length_set]; omega))) ?_
   refine sx_storeW rfl rfl hs_va (by first | omega | (simp only [List.length_set]; omega)) Try.sizeOf3 (fun w18 sw18 fw18 cw18 => ?_)
   have zw18 := cw18.size
   refine wl_nil ?_
   refine q_bn (q_n (k8 _ _ ?_))
   refine sx_sub (Sub.cons (t := 0) rfl (.cons (t := 1) rfl (.cons (t := 2) rfl (.cons (t := 7) rfl (.cons (t := 11) rfl (.cons (t := 12) rfl (.cons (t := 13) rfl (.nil)))))))) ?_
   refine sx_region ?_
   refine sx_pure rfl rfl rfl (px_add rfl rfl (by omega)) ?_
   refine sm rfl rfl rfl rfl ?_
   refine wl_nil ?_
   have q19 := Chg.step (l := lva) (h := uva) cwl5 cw18 (by omega)
   have hxl : (0 : Int) ≤ ((((os).getD k 0) - (((ys).getD k 0) * q)) - c) ∧ ((((os).getD k 0) - (((ys).getD k 0) * q)) - c) < 1000000000 := by omega
   have hcl : (0 : Int) ≤ 0 ∧ 0 < (1000000000 : Int) := by omega
   have hnx := subt_next (ys := ys) (x := ((((os).getD k 0) - (((ys).getD k 0) * q)) - c)) (c' := 0) (by omega) hdr hq.1 hc.1 hcl.1 hxl un.1 yn.1 (by omega) hv
   exact fun a ha => ⟨_, by omega, (k + 1), ((os).set k ((((os).getD k 0) - (((ys).getD k 0) * q)) - c)), 0, ha.sub (Sub.cons (t := 0) rfl (.cons (t := 1) rfl (.cons (t := 2) rfl (.cons (t := 7) (look_int (t := 7) rfl (by first | omega | simp)) (.cons (t := 11) rfl (.cons (t := 12) rfl (.cons (t := 13) (look_int (t := 13) rfl (by first | omega | simp)) (.nil)))))))), q19, (fw18.mono (by omega) (by omega)), rfl, by omega, by rw [List.length_set]; exact ho, Lm_take_set hlm (by omega) hxl.1 hxl.2, drop_set_succ hdr, hcl, hnx⟩
 ·
  refine sx_exit ?_
  refine q_e (q_e (q_bx (q_n (k3 _ _ ?_))))
  refine sx_seq fun K20 k20 => ?_
  have ek : k = ys.length := by omega
  subst ek
  refine sx_region ?_
  refine sm rfl rfl rfl rfl ?_
  refine sm rfl rfl rfl rfl ?_
  have f21 := hvb.chg cwl5 (by omega)
  refine sx_pure rfl rfl rfl (px_len rfl Try.underlying22 f21) ?_
  refine sx_pure rfl rfl rfl (px_index1 (j := (ys).length) rfl rfl (by omega) Try.underlying22 Try.sizeOf3 hs_va.sv (by first | omega | (simp only [List.length_set]; omega))) ?_
  refine sx_pure rfl rfl rfl (px_load rfl (hs_va.sv.load1 (at_int (by first | omega | (simp only [List.length_set]; omega))) Try.isAgg3)) ?_
  refine sm rfl rfl rfl rfl ?_
  refine sx_pure rfl rfl rfl (px_sub rfl rfl (by omega)) ?_
  refine sx_pure rfl rfl rfl (px_index1 (j := (ys).length) rfl rfl (by omega) Try.underlying22 Try.sizeOf3 hs_va.sv (by first | omega | (simp only [List.length_set]; omega))) ?_
  refine sx_storeW rfl rfl hs_va (by first | omega | (simp only [List.length_set]; omega)) Try.sizeOf3 (fun w22 sw22 fw22 cw22 => ?_)
  have zw22 := cw22.size
  refine wl_nil (q_n (k20 _ _ ?_))
  refine sx_sub (Sub.cons (t := 0) rfl (.cons (t := 1) rfl (.nil))) ?_
  refine sx_seq fun K23 k23 => sx_region ?_
  refine sm rfl rfl rfl rfl ?_
  refine sm rfl rfl rfl rfl ?_
  have f24 := f21.chg cw22 (by omega)
  refine sx_pure rfl rfl rfl (px_len rfl Try.underlying22 f24) ?_
  refine sx_pure rfl rfl rfl (px_index1 (j := (ys).length) rfl rfl (by omega) Try.underlying22 Try.sizeOf3 fw22.sv (by first | omega | (simp only [List.length_set]; omega))) ?_
  refine sx_pure rfl rfl rfl (px_load rfl (fw22.sv.load1 (at_int (by first | omega | (simp only [List.length_set]; omega))) Try.isAgg3)) ?_
  refine sx_pure rfl rfl rfl (px_lt rfl rfl) ?_
  refine sa rfl rfl rfl rfl ?_
  refine wl_nil (q_n (k23 _ _ ?_))
  refine sx_retc ?_
  refine sx_ret1 Try.results112 rfl ?_
  have he := subt_end (ys := ys) (by omega) rfl hdr hq.1 hc.1 hv
  have q25 := Chg.step (l := lva) (h := uva) cwl5 cw22 (by omega)
  exact ⟨((os).set ((ys).length) (((os).getD ((ys).length) 0) - c)), rfl, fw22, ⟨by rw [List.length_set]; exact ho, by rw [take_set_self]; exact hlm, he⟩, q25⟩

theorem c_addBack {w : World} {va : Value} {lva uva : Nat} {preva sufva : List Value} {zs : List Int} {vb : Value} {lvb uvb : Nat} {ys : List Int} (hva : Win w lva uva va intT preva sufva zs) (hvb : Sl w lvb uvb vb (ys)) (hd : uvb ≤ lva ∨ uva ≤ lvb) (hzl : zs.length = ys.length + 1) (hz : Lm (zs.take ys.length)) (hy : Lm ys) (ht : -1000000000 ≤ zs.getD ys.length 0 ∧ zs.getD ys.length 0 ≤ 1000000000) (h63 : zs.length ≤ 1000) :
  Ret Try.prog 113 [va, vb] w fun v w' => ∃ os, v = .tuple #[] ∧ Win w' lva uva va intT preva sufva (os) ∧ ((os).length = (zs).length ∧ Lm ((os).take (ys).length) ∧ ((vl ((os).take (ys).length) : Nat) : Int) + ((Bs ^ (ys).length : Nat) : Int) * (os).getD (ys).length 0 = ((vl ((zs).take (ys).length) : Nat) : Int) + ((Bs ^ (ys).length : Nat) : Int) * (zs).getD (ys).length 0 + ((vl ys : Nat) : Int)) ∧ Chg lva uva w w' := by
 refine sx_enter Try.func113 rfl Try.ntmps113 (Nat.le_of_ble_eq_true rfl) ?_
 refine sx_seq fun K1 k1 => sx_region ?_
 refine sa rfl rfl rfl rfl ?_
 refine wl_nil (q_n (k1 _ _ ?_))
 refine sx_seq fun K2 k2 => ?_
 refine sx_seq fun K3 k3 => sx_region ?_
 refine sm rfl rfl rfl rfl ?_
 refine sx_pure rfl rfl rfl (px_len rfl Try.underlying22 hvb) ?_
 refine sm rfl rfl rfl rfl ?_
 refine wl_nil (q_n (k3 _ _ ?_))
 refine sx_block ?_
 refine sx_loop (fun mm aa w' => ∃ (k : Nat) (os : List Int) (c : Nat), Agr 38 [(0, va), (1, vb), (4, .int .i64 ((c : Nat) : Int)), (7, vb), (8, .int .i64 ↑ys.length), (9, .int .i64 ↑k)] aa ∧ Chg lva uva w w' ∧ Win w' lva uva va intT preva sufva (os) ∧ (mm = ys.length - k) ∧ (k ≤ ys.length) ∧ (os.length = zs.length) ∧ (Lm (os.take k)) ∧ (os.drop k = zs.drop k) ∧ (c ≤ 1) ∧ (vl (os.take k) + Bs ^ k * c = vl (zs.take k) + vl (ys.take k))) (_) (fun a ha => ⟨0, zs, 0, ha.sub (Sub.cons (t := 0) rfl (.cons (t := 1) rfl (.cons (t := 4) (look_int (t := 4) rfl (by first | omega | simp)) (.cons (t := 7) rfl (.cons (t := 8) (look_int (t := 8) rfl (by first | omega | simp)) (.cons (t := 9) (look_int (t := 9) rfl (by first | omega | simp)) (.nil))))))), Chg.refl _ _ _, hva, rfl, by omega, rfl, Lm.nil, rfl, by omega, by simp [vl]⟩) ?_
 rintro mm aa wl4 ⟨k, os, c, hAwl4, cwl4, hs_va, hm, hk, ho, hlm, hdr, hc, hv⟩
 refine (show cw Try.prog 38 _ _ _ wl4 from ?_) aa hAwl4
 clear hAwl4
 have zwl4 := cwl4.size
 refine sx_seq fun K5 k5 => sx_region ?_
 refine sx_pure rfl rfl rfl (px_lt rfl rfl) ?_
 refine wl_nil (q_n (k5 _ _ ?_))
 refine sx_seq fun K6 k6 => ?_
 refine sx_condP rfl (fun h73 => ?_) (fun h73 => ?_)
 ·
  have un := hz.getD k
  rw [getD_take (by omega)] at un
  have yn := hy.getD k
  have ue := getD_drop hdr
  refine sx_skip ?_
  refine q_n (k6 _ _ ?_)
  refine sx_seq fun K7 k7 => ?_
  refine sx_block ?_
  refine sx_seq fun K8 k8 => sx_region ?_
  refine sm rfl rfl rfl rfl ?_
  have f9 := hvb.chg cwl4 (by omega)
  refine sx_pure rfl rfl rfl (px_index1 (j := k) rfl rfl (by omega) Try.underlying22 Try.sizeOf3 f9 (by first | omega | (simp only [List.length_set]; omega))) ?_
  refine sx_pure rfl rfl rfl (px_load rfl (f9.load1 (at_int (by first | omega | (simp only [List.length_set]; omega))) Try.isAgg3)) ?_
  refine sa rfl rfl rfl rfl ?_
  refine sa rfl rfl rfl rfl ?_
  refine wl_nil (q_n (k8 _ _ ?_))
  refine sx_seq fun K10 k10 => sx_region ?_
  refine sm rfl rfl rfl rfl ?_
  refine sm rfl rfl rfl rfl ?_
  refine sm rfl rfl rfl rfl ?_
  refine sx_pure rfl rfl rfl (px_index1 (j := k) rfl rfl (by omega) Try.underlying22 Try.sizeOf3 hs_va.sv (by first | omega | (simp only [List.length_set]; omega))) ?_
  refine sx_pure rfl rfl rfl (px_load rfl (hs_va.sv.load1 (at_int (by first | omega | (simp only [List.length_set]; omega))) Try.isAgg3)) ?_
  refine sm rfl rfl rfl rfl ?_
  refine sx_pure rfl rfl rfl (px_add rfl rfl (by omega)) ?_
  refine sx_pure rfl rfl rfl (px_add rfl rfl (by omega)) ?_
  refine sa rfl rfl rfl rfl ?_
  refine wl_nil (q_n (k10 _ _ ?_))
  refine sx_sub (Sub.cons (t := 0) rfl (.cons (t := 1) rfl (.cons (t := 4) rfl (.cons (t := 5) rfl (.cons (t := 7) rfl (.cons (t := 8) rfl (.cons (t := 9) rfl (.nil)))))))) ?_
  refine sx_seq fun K11 k11 => sx_region ?_
  refine sm rfl rfl rfl rfl ?_
  refine sm rfl rfl rfl rfl ?_
  refine sm rfl rfl rfl rfl ?_
  refine sx_pure rfl rfl rfl (px_rem rfl rfl (by omega) (by omega)) ?_
  refine sx_pure rfl rfl rfl (px_index1 (j := k) rfl rfl (by omega) Try.underlying22 Try.sizeOf3 hs_va.sv (by first | omega | (simp only [List.length_set]; omega))) ?_
  refine sx_storeW rfl rfl hs_va (by first | omega | (simp only [List.length_set]; omega)) Try.sizeOf3 (fun w12 sw12 fw12 cw12 => ?_)
  have zw12 := cw12.size
  refine wl_nil (q_n (k11 _ _ ?_))
  refine sx_region ?_
  refine sm rfl rfl rfl rfl ?_
  refine sx_pure rfl rfl rfl (px_quo rfl rfl (by omega) (by omega) (by omega)) ?_
  refine sa rfl rfl rfl rfl ?_
  refine wl_nil ?_
  refine q_bn (q_n (k7 _ _ ?_))
  refine sx_region ?_
  refine sx_pure rfl rfl rfl (px_add rfl rfl (by omega)) ?_
  refine sm rfl rfl rfl rfl ?_
  refine wl_nil ?_
  have q13 := Chg.step (l := lva) (h := uva) cwl4 cw12 (by omega)
  have hnx := addb_next (ys := ys) (s := (((c : Nat) : Int) + (((os).getD k 0) + ((ys).getD k 0)))) (c := c) (by omega) hdr un.1 yn.1 (by omega) hv
  exact fun a ha => ⟨_, by omega, (k + 1), ((os).set k ((((c : Nat) : Int) + (((os).getD k 0) + ((ys).getD k 0))) % 1000000000)), ((((c : Nat) : Int) + (((os).getD k 0) + ((ys).getD k 0))) / 1000000000).toNat, ha.sub (Sub.cons (t := 0) rfl (.cons (t := 1) rfl (.cons (t := 4) (look_int (t := 4) rfl (by first | omega | simp)) (.cons (t := 7) rfl (.cons (t := 8) rfl (.cons (t := 9) (look_int (t := 9) rfl (by first | omega | simp)) (.nil))))))), q13, (fw12.mono (by omega) (by omega)), rfl, by omega, by rw [List.length_set]; exact ho, Lm_take_set hlm (by omega) (by omega) (by omega), drop_set_succ hdr, by omega, hnx⟩
 ·
  refine sx_exit ?_
  refine q_e (q_e (q_bx (q_n (k2 _ _ ?_))))
  have ek : k = ys.length := by omega
  subst ek
  have ue := getD_drop hdr
  refine sx_region ?_
  refine sm rfl rfl rfl rfl ?_
  refine sm rfl rfl rfl rfl ?_
  have f14 := hvb.chg cwl4 (by omega)
  refine sx_pure rfl rfl rfl (px_len rfl Try.underlying22 f14) ?_
  refine sx_pure rfl rfl rfl (px_index1 (j := (ys).length) rfl rfl (by omega) Try.underlying22 Try.sizeOf3 hs_va.sv (by first | omega | (simp only [List.length_set]; omega))) ?_
  refine sx_pure rfl rfl rfl (px_load rfl (hs_va.sv.load1 (at_int (by first | omega | (simp only [List.length_set]; omega))) Try.isAgg3)) ?_
  refine sm rfl rfl rfl rfl ?_
  refine sx_pure rfl rfl rfl (px_add rfl rfl (by omega)) ?_
  refine sx_pure rfl rfl rfl (px_index1 (j := (ys).length) rfl rfl (by omega) Try.underlying22 Try.sizeOf3 hs_va.sv (by first | omega | (simp only [List.length_set]; omega))) ?_
  refine sx_storeW rfl rfl hs_va (by first | omega | (simp only [List.length_set]; omega)) Try.sizeOf3 (fun w15 sw15 fw15 cw15 => ?_)
  have zw15 := cw15.size
  refine wl_nil ?_
  refine sx_end0 rfl ?_
  have he := addb_end (ys := ys) (by omega) rfl hdr hv
  have q16 := Chg.step (l := lva) (h := uva) cwl4 cw15 (by omega)
  exact ⟨((os).set ((ys).length) (((os).getD ((ys).length) 0) + ((c : Nat) : Int))), rfl, fw15, ⟨by rw [List.length_set]; exact ho, by rw [take_set_self]; exact hlm, he⟩, q16⟩

theorem c_divStep {w : World} {va : Value} {lva uva : Nat} {preva sufva : List Value} {zs : List Int} {vb : Value} {lvb uvb : Nat} {ys : List Int} (hva : Win w lva uva va intT preva sufva zs) (hvb : Sl w lvb uvb vb (ys)) (hd : uvb ≤ lva ∨ uva ≤ lvb) (hzl : zs.length = ys.length + 1) (h2 : 2 ≤ ys.length) (hz : Lm zs) (hy : Lm ys) (hv1 : 0 < ys.getD (ys.length - 1) 0) (hU : vl zs < 1000000000 * vl ys) (h63 : zs.length ≤ 1000) :
  Ret Try.prog 82 [va, vb] w fun v w' => ∃ os, v = .int .i64 (((vl zs / vl ys : Nat) : Int)) ∧ Win w' lva uva va intT preva sufva (os) ∧ (Lm os ∧ (os).length = (zs).length ∧ vl os = vl zs % vl ys) ∧ Chg lva uva w w' := by
 have a0 := hz.getD ys.length
 have a1 := hz.getD (ys.length - 1)
 have a2 := hz.getD (ys.length - 2)
 have b1 := hy.getD (ys.length - 1)
 have b2 := hy.getD (ys.length - 2)
 have hV : 0 < vl ys := by omega
 refine sx_enter Try.func82 rfl Try.ntmps82 (Nat.le_of_ble_eq_true rfl) ?_
 refine sx_seq fun K1 k1 => sx_region ?_
 refine sa rfl rfl rfl rfl ?_
 refine wl_nil (q_n (k1 _ _ ?_))
 refine sx_seq fun K2 k2 => sx_region ?_
 refine sm rfl rfl rfl rfl ?_
 refine sx_pure rfl rfl rfl (px_len rfl Try.underlying22 hvb) ?_
 refine sa rfl rfl rfl rfl ?_
 refine wl_nil (q_n (k2 _ _ ?_))
 refine sx_seq fun K3 k3 => ?_
 refine dx_region (fun w' => Chg 0 0 w w') (by kernel_rfl) (Chg.zero (Chg.drew _)) ?_
 have d4 := Chg.drew w
 have s4 : Chg 0 0 w (World.drew w) := Chg.zero (Chg.drew _)
 have y4 : (World.drew w).heap.size = w.heap.size := rfl
 generalize World.drew w = w4 at *
 have zw4 := d4.size
 refine dx_take 0 rfl rfl rfl rfl (by kernel_rfl) (by kernel_rfl) (by kernel_rfl) s4 (fun _ hS => px_move rfl) ?_
 refine dx_take 1 rfl rfl rfl rfl (by kernel_rfl) (by kernel_rfl) (by kernel_rfl) s4 (fun _ hS => px_move rfl) ?_
 refine dx_take 2 rfl rfl rfl rfl (by kernel_rfl) (by kernel_rfl) (by kernel_rfl) s4 (fun _ hS => px_index1 (j := (ys).length) rfl rfl (by omega) Try.underlying22 Try.sizeOf3 ((hva.sv).chg hS (by omega)) (by omega)) ?_
 refine dx_take 3 rfl rfl rfl rfl (by kernel_rfl) (by kernel_rfl) (by kernel_rfl) s4 (fun _ hS => px_load rfl (((hva.sv).chg hS (by omega)).load1 (at_int (by omega)) Try.isAgg3)) ?_
 refine dx_take 4 rfl rfl rfl rfl (by kernel_rfl) (by kernel_rfl) (by kernel_rfl) s4 (fun _ hS => px_mul rfl rfl (by omega)) ?_
 refine dx_take 5 rfl rfl rfl rfl (by kernel_rfl) (by kernel_rfl) (by kernel_rfl) s4 (fun _ hS => px_move rfl) ?_
 refine dx_take 6 rfl rfl rfl rfl (by kernel_rfl) (by kernel_rfl) (by kernel_rfl) s4 (fun _ hS => px_move rfl) ?_
 refine dx_take 7 rfl rfl rfl rfl (by kernel_rfl) (by kernel_rfl) (by kernel_rfl) s4 (fun _ hS => px_sub rfl rfl (by omega)) ?_
 refine dx_take 8 rfl rfl rfl rfl (by kernel_rfl) (by kernel_rfl) (by kernel_rfl) s4 (fun _ hS => px_index1 (j := ((ys).length - 1)) rfl rfl (by omega) Try.underlying22 Try.sizeOf3 ((hva.sv).chg hS (by omega)) (by omega)) ?_
 refine dx_take 9 rfl rfl rfl rfl (by kernel_rfl) (by kernel_rfl) (by kernel_rfl) s4 (fun _ hS => px_load rfl (((hva.sv).chg hS (by omega)).load1 (at_int (by omega)) Try.isAgg3)) ?_
 refine dx_take 10 rfl rfl rfl rfl (by kernel_rfl) (by kernel_rfl) (by kernel_rfl) s4 (fun _ hS => px_add rfl rfl (by omega)) ?_
 refine dx_take 11 rfl rfl rfl rfl (by kernel_rfl) (by kernel_rfl) (by kernel_rfl) s4 (fun _ hS => px_assign rfl) ?_
 refine dx_done (by kernel_rfl) ?_
 refine q_n (k3 _ _ ?_)
 refine sx_sub (Sub.cons (t := 0) rfl (.cons (t := 1) rfl (.cons (t := 4) rfl (.cons (t := 5) rfl (.cons (t := 6) rfl (.nil)))))) ?_
 refine sx_seq fun K5 k5 => sx_region ?_
 refine sm rfl rfl rfl rfl ?_
 refine sm rfl rfl rfl rfl ?_
 refine sm rfl rfl rfl rfl ?_
 refine sx_pure rfl rfl rfl (px_sub rfl rfl (by omega)) ?_
 have f6 := hvb.ext d4
 refine sx_pure rfl rfl rfl (px_index1 (j := ((ys).length - 1)) rfl rfl (by omega) Try.underlying22 Try.sizeOf3 f6 (by omega)) ?_
 refine sx_pure rfl rfl rfl (px_load rfl (f6.load1 (at_int (by omega)) Try.isAgg3)) ?_
 refine sx_pure rfl rfl rfl (px_quo rfl rfl (by omega) (by omega) (by omega)) ?_
 refine sx_pure rfl rfl rfl (px_min rfl rfl) ?_
 refine sa rfl rfl rfl rfl ?_
 refine wl_nil (q_n (k5 _ _ ?_))
 refine sx_seq fun K7 k7 => ?_
 refine sx_block ?_
 refine sx_loop (fun mm aa w' => ∃ (q : Int), Agr 81 [(0, va), (1, vb), (5, .int .i64 ↑ys.length), (6, .int .i64 ((((zs).getD ((ys).length) 0) * 1000000000) + ((zs).getD ((ys).length - 1) 0))), (7, .int .i64 q)] aa ∧ Chg 0 0 w4 w' ∧ (mm = q.toNat) ∧ (Guess zs ys ys.length ((((zs).getD ((ys).length) 0) * 1000000000) + ((zs).getD ((ys).length - 1) 0)) q)) (_) (fun a ha => ⟨(min (((((zs).getD ((ys).length) 0) * 1000000000) + ((zs).getD ((ys).length - 1) 0)) / ((ys).getD ((ys).length - 1) 0)) 999999999), ha.sub (Sub.cons (t := 0) rfl (.cons (t := 1) rfl (.cons (t := 5) (look_int (t := 5) rfl (by first | omega | simp)) (.cons (t := 6) rfl (.cons (t := 7) (look_int (t := 7) rfl (by first | omega | simp)) (.nil)))))), Chg.refl _ _ _, rfl, guess_init h2 hzl rfl hz hy hv1 hU rfl⟩) ?_
 rintro mm aa wl8 ⟨q, hAwl8, cwl8, hm, hg⟩
 refine (show cw Try.prog 81 _ _ _ wl8 from ?_) aa hAwl8
 clear hAwl8
 have zwl8 := cwl8.size
 have hq0 := hg.q0
 have hq1 := hg.q1
 have hqv := hg.qv
 have m1 := mul_limb hq0 (by omega) b1.1 b1.2
 have m2 := mul_limb hq0 (by omega) b2.1 b2.2
 refine sx_seq fun K9 k9 => ?_
 refine sx_seq fun K10 k10 => ?_
 by_cases ph44 : 0 < q
 ·
  by_cases ph44x1 : zs.getD ys.length 0 * 1000000000 + zs.getD (ys.length - 1) 0 - q * ys.getD (ys.length - 1) 0 < 1000000000
  ·
   have f11 := hva.ext d4
   have f12 := f11.ext cwl8
   have f13 := f6.ext cwl8
   refine dx_region (fun w' => Chg 0 0 wl8 w') (by kernel_rfl) (Chg.zero (Chg.drew _)) ?_
   have d14 := Chg.drew wl8
   have s14 : Chg 0 0 wl8 (World.drew wl8) := Chg.zero (Chg.drew _)
   have y14 : (World.drew wl8).heap.size = wl8.heap.size := rfl
   generalize World.drew wl8 = w14 at *
   have zw14 := d14.size
   refine dx_take 0 rfl rfl rfl rfl (by kernel_rfl) (by kernel_rfl) (by kernel_rfl) s14 (fun _ hS => px_move rfl) ?_
   refine dx_take 1 rfl rfl rfl rfl (by kernel_rfl) (by kernel_rfl) (by kernel_rfl) s14 (fun _ hS => px_gt rfl rfl) ?_
   refine dx_take 2 rfl rfl rfl rfl (by kernel_rfl) (by kernel_rfl) (by kernel_rfl) s14 (fun _ hS => px_move rfl) ?_
   have h44 : (0 : Int) < q := by omega
   refine dx_tmpPT (t := 31) rfl h44 ?_
   refine dx_takeG 3 rfl rfl rfl rfl rfl rfl (by kernel_rfl) (by kernel_rfl) (by kernel_rfl) s14 (fun _ hS => px_move rfl) ?_
   refine dx_takeG 4 rfl rfl rfl rfl rfl rfl (by kernel_rfl) (by kernel_rfl) (by kernel_rfl) s14 (fun _ hS => px_move rfl) ?_
   refine dx_takeG 5 rfl rfl rfl rfl rfl rfl (by kernel_rfl) (by kernel_rfl) (by kernel_rfl) s14 (fun _ hS => px_move rfl) ?_
   refine dx_takeG 6 rfl rfl rfl rfl rfl rfl (by kernel_rfl) (by kernel_rfl) (by kernel_rfl) s14 (fun _ hS => px_move rfl) ?_
   refine dx_takeG 7 rfl rfl rfl rfl rfl rfl (by kernel_rfl) (by kernel_rfl) (by kernel_rfl) s14 (fun _ hS => px_sub rfl rfl (by omega)) ?_
   refine dx_takeG 8 rfl rfl rfl rfl rfl rfl (by kernel_rfl) (by kernel_rfl) (by kernel_rfl) s14 (fun _ hS => px_index1 (j := (ys.length - 1)) rfl rfl (by omega) Try.underlying22 Try.sizeOf3 ((f13).chg hS (by omega)) (by omega)) ?_
   refine dx_takeG 9 rfl rfl rfl rfl rfl rfl (by kernel_rfl) (by kernel_rfl) (by kernel_rfl) s14 (fun _ hS => px_load rfl (((f13).chg hS (by omega)).load1 (at_int (by omega)) Try.isAgg3)) ?_
   refine dx_takeG 10 rfl rfl rfl rfl rfl rfl (by kernel_rfl) (by kernel_rfl) (by kernel_rfl) s14 (fun _ hS => px_mul rfl rfl (by omega)) ?_
   refine dx_takeG 11 rfl rfl rfl rfl rfl rfl (by kernel_rfl) (by kernel_rfl) (by kernel_rfl) s14 (fun _ hS => px_sub rfl rfl (by omega)) ?_
   refine dx_takeG 12 rfl rfl rfl rfl rfl rfl (by kernel_rfl) (by kernel_rfl) (by kernel_rfl) s14 (fun _ hS => px_lt rfl rfl) ?_
   refine dx_take 13 rfl rfl rfl rfl (by kernel_rfl) (by kernel_rfl) (by kernel_rfl) s14 (fun _ hS => px_pick rfl rfl) ?_
   refine dx_take 14 rfl rfl rfl rfl (by kernel_rfl) (by kernel_rfl) (by kernel_rfl) s14 (fun _ hS => px_move rfl) ?_
   have h44x1 : (((((zs).getD ((ys).length) 0) * 1000000000) + ((zs).getD ((ys).length - 1) 0)) - (q * ((ys).getD (ys.length - 1) 0)) : Int) < 1000000000 := by omega
   refine dx_tmpPT (t := 43) rfl h44x1 ?_
   refine dx_takeG 15 rfl rfl rfl rfl rfl rfl (by kernel_rfl) (by kernel_rfl) (by kernel_rfl) s14 (fun _ hS => px_move rfl) ?_
   refine dx_takeG 16 rfl rfl rfl rfl rfl rfl (by kernel_rfl) (by kernel_rfl) (by kernel_rfl) s14 (fun _ hS => px_move rfl) ?_
   refine dx_takeG 17 rfl rfl rfl rfl rfl rfl (by kernel_rfl) (by kernel_rfl) (by kernel_rfl) s14 (fun _ hS => px_move rfl) ?_
   refine dx_takeG 18 rfl rfl rfl rfl rfl rfl (by kernel_rfl) (by kernel_rfl) (by kernel_rfl) s14 (fun _ hS => px_sub rfl rfl (by omega)) ?_
   refine dx_takeG 19 rfl rfl rfl rfl rfl rfl (by kernel_rfl) (by kernel_rfl) (by kernel_rfl) s14 (fun _ hS => px_index1 (j := (ys.length - 2)) rfl rfl (by omega) Try.underlying22 Try.sizeOf3 ((f13).chg hS (by omega)) (by omega)) ?_
   refine dx_takeG 20 rfl rfl rfl rfl rfl rfl (by kernel_rfl) (by kernel_rfl) (by kernel_rfl) s14 (fun _ hS => px_load rfl (((f13).chg hS (by omega)).load1 (at_int (by omega)) Try.isAgg3)) ?_
   refine dx_takeG 21 rfl rfl rfl rfl rfl rfl (by kernel_rfl) (by kernel_rfl) (by kernel_rfl) s14 (fun _ hS => px_mul rfl rfl (by omega)) ?_
   refine dx_takeG 22 rfl rfl rfl rfl rfl rfl (by kernel_rfl) (by kernel_rfl) (by kernel_rfl) s14 (fun _ hS => px_move rfl) ?_
   refine dx_takeG 23 rfl rfl rfl rfl rfl rfl (by kernel_rfl) (by kernel_rfl) (by kernel_rfl) s14 (fun _ hS => px_move rfl) ?_
   refine dx_takeG 24 rfl rfl rfl rfl rfl rfl (by kernel_rfl) (by kernel_rfl) (by kernel_rfl) s14 (fun _ hS => px_move rfl) ?_
   refine dx_takeG 25 rfl rfl rfl rfl rfl rfl (by kernel_rfl) (by kernel_rfl) (by kernel_rfl) s14 (fun _ hS => px_move rfl) ?_
   refine dx_takeG 26 rfl rfl rfl rfl rfl rfl (by kernel_rfl) (by kernel_rfl) (by kernel_rfl) s14 (fun _ hS => px_sub rfl rfl (by omega)) ?_
   refine dx_takeG 27 rfl rfl rfl rfl rfl rfl (by kernel_rfl) (by kernel_rfl) (by kernel_rfl) s14 (fun _ hS => px_index1 (j := (ys.length - 1)) rfl rfl (by omega) Try.underlying22 Try.sizeOf3 ((f13).chg hS (by omega)) (by omega)) ?_
   refine dx_takeG 28 rfl rfl rfl rfl rfl rfl (by kernel_rfl) (by kernel_rfl) (by kernel_rfl) s14 (fun _ hS => px_load rfl (((f13).chg hS (by omega)).load1 (at_int (by omega)) Try.isAgg3)) ?_
   refine dx_takeG 29 rfl rfl rfl rfl rfl rfl (by kernel_rfl) (by kernel_rfl) (by kernel_rfl) s14 (fun _ hS => px_mul rfl rfl (by omega)) ?_
   refine dx_takeG 30 rfl rfl rfl rfl rfl rfl (by kernel_rfl) (by kernel_rfl) (by kernel_rfl) s14 (fun _ hS => px_sub rfl rfl (by omega)) ?_
   refine dx_takeG 31 rfl rfl rfl rfl rfl rfl (by kernel_rfl) (by kernel_rfl) (by kernel_rfl) s14 (fun _ hS => px_mul rfl rfl (by omega)) ?_
   refine dx_takeG 32 rfl rfl rfl rfl rfl rfl (by kernel_rfl) (by kernel_rfl) (by kernel_rfl) s14 (fun _ hS => px_move rfl) ?_
   refine dx_takeG 33 rfl rfl rfl rfl rfl rfl (by kernel_rfl) (by kernel_rfl) (by kernel_rfl) s14 (fun _ hS => px_move rfl) ?_
   refine dx_takeG 34 rfl rfl rfl rfl rfl rfl (by kernel_rfl) (by kernel_rfl) (by kernel_rfl) s14 (fun _ hS => px_sub rfl rfl (by omega)) ?_
   refine dx_takeG 35 rfl rfl rfl rfl rfl rfl (by kernel_rfl) (by kernel_rfl) (by kernel_rfl) s14 (fun _ hS => px_index1 (j := (ys.length - 2)) rfl rfl (by omega) Try.underlying22 Try.sizeOf3 ((f12.sv).chg hS (by omega)) (by omega)) ?_
   refine dx_takeG 36 rfl rfl rfl rfl rfl rfl (by kernel_rfl) (by kernel_rfl) (by kernel_rfl) s14 (fun _ hS => px_load rfl (((f12.sv).chg hS (by omega)).load1 (at_int (by omega)) Try.isAgg3)) ?_
   refine dx_takeG 37 rfl rfl rfl rfl rfl rfl (by kernel_rfl) (by kernel_rfl) (by kernel_rfl) s14 (fun _ hS => px_add rfl rfl (by omega)) ?_
   refine dx_takeG 38 rfl rfl rfl rfl rfl rfl (by kernel_rfl) (by kernel_rfl) (by kernel_rfl) s14 (fun _ hS => px_gt rfl rfl) ?_
   refine dx_take 39 rfl rfl rfl rfl (by kernel_rfl) (by kernel_rfl) (by kernel_rfl) s14 (fun _ hS => px_pick rfl rfl) ?_
   refine dx_done (by kernel_rfl) ?_
   refine q_n (k10 _ _ ?_)
   refine sx_sub (Sub.cons (t := 0) rfl (.cons (t := 1) rfl (.cons (t := 5) rfl (.cons (t := 6) rfl (.cons (t := 7) rfl (.cons (t := 68) rfl (.nil))))))) ?_
   refine sx_condP rfl (fun h44x2 => ?_) (fun h44x2 => ?_)
   ·
    refine sx_skip ?_
    refine q_n (k9 _ _ ?_)
    refine sx_block ?_
    refine sx_region ?_
    refine sm rfl rfl rfl rfl ?_
    refine sx_pure rfl rfl rfl (px_sub rfl rfl (by omega)) ?_
    refine sa rfl rfl rfl rfl ?_
    refine wl_nil ?_
    exact q_bn (fun a ha => ⟨_, by omega, (q - 1), ha.sub (Sub.cons (t := 0) rfl (.cons (t := 1) rfl (.cons (t := 5) rfl (.cons (t := 6) rfl (.cons (t := 7) (look_int (t := 7) rfl (by first | omega | simp)) (.nil)))))), (cwl8.t d14), rfl, guess_next h2 hzl rfl hz hy hv1 rfl hg (by omega) (by omega)⟩)
   ·
    refine sx_exit ?_
    refine q_e (q_e (q_bx (q_n (k7 _ _ ?_))))
    refine sx_seq fun K15 k15 => ?_
    refine sx_seq fun K16 k16 => ?_
    have hge := guess_end h2 hzl rfl hz hy hv1 rfl hg (by first | exact .inl (by omega) | exact .inr (.inl (by omega)) | exact .inr (.inr (by omega)))
    refine sx_region ?_
    refine sm rfl rfl rfl rfl ?_
    refine sm rfl rfl rfl rfl ?_
    refine sm rfl rfl rfl rfl ?_
    have f17 := f12.ext d14
    have f18 := f13.ext d14
    refine sx_call rfl rfl Try.call112 (c_subTimes f17 f18 (by omega) (by omega) (by assumption) (by assumption) (by omega) (by omega)) (fun v19 w19 p19 => ?_)
    obtain ⟨os19, rfl, ova_19, hs19, c19⟩ := p19
    have zw19 := c19.size
    have hol := hs19.1.trans hzl
    have hlmx := hs19.2.1
    have hst := step_sub hzl hz hy rfl hV hq0 hg.up hge hol hs19.2.1 hs19.2.2
    refine wl_nil (q_n (k16 _ _ ?_))
    refine sx_condP rfl (fun h47 => ?_) (fun h47 => ?_)
    ·
     have hs2 := hst.2 h47
     have hs3 := hs2.1
     refine sx_seq fun K20 k20 => sx_region ?_
     refine sm rfl rfl rfl rfl ?_
     refine sx_pure rfl rfl rfl (px_sub rfl rfl (by omega)) ?_
     refine sa rfl rfl rfl rfl ?_
     refine wl_nil (q_n (k20 _ _ ?_))
     refine sx_region ?_
     refine sm rfl rfl rfl rfl ?_
     refine sm rfl rfl rfl rfl ?_
     have f21 := f18.chg c19 (by omega)
     refine sx_call rfl rfl Try.call113 (c_addBack ova_19 f21 (by omega) (hol) (by assumption) (by assumption) (by omega) (by omega)) (fun v22 w22 p22 => ?_)
     obtain ⟨os22, rfl, ova_22, hs22, c22⟩ := p22
     have zw22 := c22.size
     have hfl := hs22.1.trans hol
     have hfin := hs2.2.2 _ hfl hs22.2.1 hs22.2.2
     refine wl_nil (q_n (k15 _ _ ?_))
     refine sx_sub (Sub.cons (t := 7) rfl (.nil)) ?_
     refine sx_seq fun K23 k23 => sx_region ?_
     refine sm rfl rfl rfl rfl ?_
     refine sa rfl rfl rfl rfl ?_
     refine wl_nil (q_n (k23 _ _ ?_))
     refine sx_retc ?_
     refine sx_ret1 Try.results82 rfl ?_
     have q24 := Chg.step (l := lva) (h := uva) (Chg.zero (l := lva) (h := uva) ((d4.t cwl8).t d14)) c19 (by omega)
     have q25 := Chg.step (l := lva) (h := uva) q24 c22 (by omega)
     exact ⟨_, by rw [hs2.2.1], ova_22, ⟨hfin.1, by omega, hfin.2⟩, q25⟩
    ·
     have hs1 := hst.1 (by omega)
     refine sx_skip ?_
     refine q_n (k15 _ _ ?_)
     refine sx_seq fun K26 k26 => sx_region ?_
     refine sm rfl rfl rfl rfl ?_
     refine sa rfl rfl rfl rfl ?_
     refine wl_nil (q_n (k26 _ _ ?_))
     refine sx_retc ?_
     refine sx_ret1 Try.results82 rfl ?_
     have q27 := Chg.step (l := lva) (h := uva) (Chg.zero (l := lva) (h := uva) ((d4.t cwl8).t d14)) c19 (by omega)
     exact ⟨_, by rw [hs1.1], ova_19, ⟨hs1.2.1, by omega, hs1.2.2⟩, q27⟩
  ·
   have f28 := hva.ext d4
   have f29 := f28.ext cwl8
   have f30 := f6.ext cwl8
   refine dx_region (fun w' => Chg 0 0 wl8 w') (by kernel_rfl) (Chg.zero (Chg.drew _)) ?_
   have d31 := Chg.drew wl8
   have s31 : Chg 0 0 wl8 (World.drew wl8) := Chg.zero (Chg.drew _)
   have y31 : (World.drew wl8).heap.size = wl8.heap.size := rfl
   generalize World.drew wl8 = w31 at *
   have zw31 := d31.size
   refine dx_take 0 rfl rfl rfl rfl (by kernel_rfl) (by kernel_rfl) (by kernel_rfl) s31 (fun _ hS => px_move rfl) ?_
   refine dx_take 1 rfl rfl rfl rfl (by kernel_rfl) (by kernel_rfl) (by kernel_rfl) s31 (fun _ hS => px_gt rfl rfl) ?_
   refine dx_take 2 rfl rfl rfl rfl (by kernel_rfl) (by kernel_rfl) (by kernel_rfl) s31 (fun _ hS => px_move rfl) ?_
   have h44 : (0 : Int) < q := by omega
   refine dx_tmpPT (t := 31) rfl h44 ?_
   refine dx_takeG 3 rfl rfl rfl rfl rfl rfl (by kernel_rfl) (by kernel_rfl) (by kernel_rfl) s31 (fun _ hS => px_move rfl) ?_
   refine dx_takeG 4 rfl rfl rfl rfl rfl rfl (by kernel_rfl) (by kernel_rfl) (by kernel_rfl) s31 (fun _ hS => px_move rfl) ?_
   refine dx_takeG 5 rfl rfl rfl rfl rfl rfl (by kernel_rfl) (by kernel_rfl) (by kernel_rfl) s31 (fun _ hS => px_move rfl) ?_
   refine dx_takeG 6 rfl rfl rfl rfl rfl rfl (by kernel_rfl) (by kernel_rfl) (by kernel_rfl) s31 (fun _ hS => px_move rfl) ?_
   refine dx_takeG 7 rfl rfl rfl rfl rfl rfl (by kernel_rfl) (by kernel_rfl) (by kernel_rfl) s31 (fun _ hS => px_sub rfl rfl (by omega)) ?_
   refine dx_takeG 8 rfl rfl rfl rfl rfl rfl (by kernel_rfl) (by kernel_rfl) (by kernel_rfl) s31 (fun _ hS => px_index1 (j := (ys.length - 1)) rfl rfl (by omega) Try.underlying22 Try.sizeOf3 ((f30).chg hS (by omega)) (by omega)) ?_
   refine dx_takeG 9 rfl rfl rfl rfl rfl rfl (by kernel_rfl) (by kernel_rfl) (by kernel_rfl) s31 (fun _ hS => px_load rfl (((f30).chg hS (by omega)).load1 (at_int (by omega)) Try.isAgg3)) ?_
   refine dx_takeG 10 rfl rfl rfl rfl rfl rfl (by kernel_rfl) (by kernel_rfl) (by kernel_rfl) s31 (fun _ hS => px_mul rfl rfl (by omega)) ?_
   refine dx_takeG 11 rfl rfl rfl rfl rfl rfl (by kernel_rfl) (by kernel_rfl) (by kernel_rfl) s31 (fun _ hS => px_sub rfl rfl (by omega)) ?_
   refine dx_takeG 12 rfl rfl rfl rfl rfl rfl (by kernel_rfl) (by kernel_rfl) (by kernel_rfl) s31 (fun _ hS => px_lt rfl rfl) ?_
   refine dx_take 13 rfl rfl rfl rfl (by kernel_rfl) (by kernel_rfl) (by kernel_rfl) s31 (fun _ hS => px_pick rfl rfl) ?_
   refine dx_take 14 rfl rfl rfl rfl (by kernel_rfl) (by kernel_rfl) (by kernel_rfl) s31 (fun _ hS => px_move rfl) ?_
   have h44x1 : ¬ ((((((zs).getD ((ys).length) 0) * 1000000000) + ((zs).getD ((ys).length - 1) 0)) - (q * ((ys).getD (ys.length - 1) 0)) : Int) < 1000000000) := by omega
   refine dx_tmpPF (t := 43) rfl h44x1 ?_
   refine dx_skip 15 rfl rfl rfl rfl rfl rfl rfl (by kernel_rfl) (by kernel_rfl) (by kernel_rfl) s31 ?_
   refine dx_skip 16 rfl rfl rfl rfl rfl rfl rfl (by kernel_rfl) (by kernel_rfl) (by kernel_rfl) s31 ?_
   refine dx_skip 17 rfl rfl rfl rfl rfl rfl rfl (by kernel_rfl) (by kernel_rfl) (by kernel_rfl) s31 ?_
   refine dx_skip 18 rfl rfl rfl rfl rfl rfl rfl (by kernel_rfl) (by kernel_rfl) (by kernel_rfl) s31 ?_
   refine dx_skip 19 rfl rfl rfl rfl rfl rfl rfl (by kernel_rfl) (by kernel_rfl) (by kernel_rfl) s31 ?_
   refine dx_skip 20 rfl rfl rfl rfl rfl rfl rfl (by kernel_rfl) (by kernel_rfl) (by kernel_rfl) s31 ?_
   refine dx_skip 21 rfl rfl rfl rfl rfl rfl rfl (by kernel_rfl) (by kernel_rfl) (by kernel_rfl) s31 ?_
   refine dx_skip 22 rfl rfl rfl rfl rfl rfl rfl (by kernel_rfl) (by kernel_rfl) (by kernel_rfl) s31 ?_
   refine dx_skip 23 rfl rfl rfl rfl rfl rfl rfl (by kernel_rfl) (by kernel_rfl) (by kernel_rfl) s31 ?_
   refine dx_skip 24 rfl rfl rfl rfl rfl rfl rfl (by kernel_rfl) (by kernel_rfl) (by kernel_rfl) s31 ?_
   refine dx_skip 25 rfl rfl rfl rfl rfl rfl rfl (by kernel_rfl) (by kernel_rfl) (by kernel_rfl) s31 ?_
   refine dx_skip 26 rfl rfl rfl rfl rfl rfl rfl (by kernel_rfl) (by kernel_rfl) (by kernel_rfl) s31 ?_
   refine dx_skip 27 rfl rfl rfl rfl rfl rfl rfl (by kernel_rfl) (by kernel_rfl) (by kernel_rfl) s31 ?_
   refine dx_skip 28 rfl rfl rfl rfl rfl rfl rfl (by kernel_rfl) (by kernel_rfl) (by kernel_rfl) s31 ?_
   refine dx_skip 29 rfl rfl rfl rfl rfl rfl rfl (by kernel_rfl) (by kernel_rfl) (by kernel_rfl) s31 ?_
   refine dx_skip 30 rfl rfl rfl rfl rfl rfl rfl (by kernel_rfl) (by kernel_rfl) (by kernel_rfl) s31 ?_
   refine dx_skip 31 rfl rfl rfl rfl rfl rfl rfl (by kernel_rfl) (by kernel_rfl) (by kernel_rfl) s31 ?_
   refine dx_skip 32 rfl rfl rfl rfl rfl rfl rfl (by kernel_rfl) (by kernel_rfl) (by kernel_rfl) s31 ?_
   refine dx_skip 33 rfl rfl rfl rfl rfl rfl rfl (by kernel_rfl) (by kernel_rfl) (by kernel_rfl) s31 ?_
   refine dx_skip 34 rfl rfl rfl rfl rfl rfl rfl (by kernel_rfl) (by kernel_rfl) (by kernel_rfl) s31 ?_
   refine dx_skip 35 rfl rfl rfl rfl rfl rfl rfl (by kernel_rfl) (by kernel_rfl) (by kernel_rfl) s31 ?_
   refine dx_skip 36 rfl rfl rfl rfl rfl rfl rfl (by kernel_rfl) (by kernel_rfl) (by kernel_rfl) s31 ?_
   refine dx_skip 37 rfl rfl rfl rfl rfl rfl rfl (by kernel_rfl) (by kernel_rfl) (by kernel_rfl) s31 ?_
   refine dx_skip 38 rfl rfl rfl rfl rfl rfl rfl (by kernel_rfl) (by kernel_rfl) (by kernel_rfl) s31 ?_
   refine dx_take 39 rfl rfl rfl rfl (by kernel_rfl) (by kernel_rfl) (by kernel_rfl) s31 (fun _ hS => px_pick rfl rfl) ?_
   refine dx_done (by kernel_rfl) ?_
   refine q_n (k10 _ _ ?_)
   refine sx_sub (Sub.cons (t := 0) rfl (.cons (t := 1) rfl (.cons (t := 5) rfl (.cons (t := 6) rfl (.cons (t := 7) rfl (.cons (t := 68) rfl (.nil))))))) ?_
   refine sx_condF rfl ?_
   refine sx_exit ?_
   refine q_e (q_e (q_bx (q_n (k7 _ _ ?_))))
   refine sx_seq fun K32 k32 => ?_
   refine sx_seq fun K33 k33 => ?_
   have hge := guess_end h2 hzl rfl hz hy hv1 rfl hg (by first | exact .inl (by omega) | exact .inr (.inl (by omega)) | exact .inr (.inr (by omega)))
   refine sx_region ?_
   refine sm rfl rfl rfl rfl ?_
   refine sm rfl rfl rfl rfl ?_
   refine sm rfl rfl rfl rfl ?_
   have f34 := f29.ext d31
   have f35 := f30.ext d31
   refine sx_call rfl rfl Try.call112 (c_subTimes f34 f35 (by omega) (by omega) (by assumption) (by assumption) (by omega) (by omega)) (fun v36 w36 p36 => ?_)
   obtain ⟨os36, rfl, ova_36, hs36, c36⟩ := p36
   have zw36 := c36.size
   have hol := hs36.1.trans hzl
   have hlmx := hs36.2.1
   have hst := step_sub hzl hz hy rfl hV hq0 hg.up hge hol hs36.2.1 hs36.2.2
   refine wl_nil (q_n (k33 _ _ ?_))
   refine sx_condP rfl (fun h47 => ?_) (fun h47 => ?_)
   ·
    have hs2 := hst.2 h47
    have hs3 := hs2.1
    refine sx_seq fun K37 k37 => sx_region ?_
    refine sm rfl rfl rfl rfl ?_
    refine sx_pure rfl rfl rfl (px_sub rfl rfl (by omega)) ?_
    refine sa rfl rfl rfl rfl ?_
    refine wl_nil (q_n (k37 _ _ ?_))
    refine sx_region ?_
    refine sm rfl rfl rfl rfl ?_
    refine sm rfl rfl rfl rfl ?_
    have f38 := f35.chg c36 (by omega)
    refine sx_call rfl rfl Try.call113 (c_addBack ova_36 f38 (by omega) (hol) (by assumption) (by assumption) (by omega) (by omega)) (fun v39 w39 p39 => ?_)
    obtain ⟨os39, rfl, ova_39, hs39, c39⟩ := p39
    have zw39 := c39.size
    have hfl := hs39.1.trans hol
    have hfin := hs2.2.2 _ hfl hs39.2.1 hs39.2.2
    refine wl_nil (q_n (k32 _ _ ?_))
    refine sx_sub (Sub.cons (t := 7) rfl (.nil)) ?_
    refine sx_seq fun K40 k40 => sx_region ?_
    refine sm rfl rfl rfl rfl ?_
    refine sa rfl rfl rfl rfl ?_
    refine wl_nil (q_n (k40 _ _ ?_))
    refine sx_retc ?_
    refine sx_ret1 Try.results82 rfl ?_
    have q41 := Chg.step (l := lva) (h := uva) (Chg.zero (l := lva) (h := uva) ((d4.t cwl8).t d31)) c36 (by omega)
    have q42 := Chg.step (l := lva) (h := uva) q41 c39 (by omega)
    exact ⟨_, by rw [hs2.2.1], ova_39, ⟨hfin.1, by omega, hfin.2⟩, q42⟩
   ·
    have hs1 := hst.1 (by omega)
    refine sx_skip ?_
    refine q_n (k32 _ _ ?_)
    refine sx_seq fun K43 k43 => sx_region ?_
    refine sm rfl rfl rfl rfl ?_
    refine sa rfl rfl rfl rfl ?_
    refine wl_nil (q_n (k43 _ _ ?_))
    refine sx_retc ?_
    refine sx_ret1 Try.results82 rfl ?_
    have q44 := Chg.step (l := lva) (h := uva) (Chg.zero (l := lva) (h := uva) ((d4.t cwl8).t d31)) c36 (by omega)
    exact ⟨_, by rw [hs1.1], ova_36, ⟨hs1.2.1, by omega, hs1.2.2⟩, q44⟩
 ·
  have f45 := hva.ext d4
  have f46 := f45.ext cwl8
  have f47 := f6.ext cwl8
  refine dx_region (fun w' => Chg 0 0 wl8 w') (by kernel_rfl) (Chg.zero (Chg.drew _)) ?_
  have d48 := Chg.drew wl8
  have s48 : Chg 0 0 wl8 (World.drew wl8) := Chg.zero (Chg.drew _)
  have y48 : (World.drew wl8).heap.size = wl8.heap.size := rfl
  generalize World.drew wl8 = w48 at *
  have zw48 := d48.size
  refine dx_take 0 rfl rfl rfl rfl (by kernel_rfl) (by kernel_rfl) (by kernel_rfl) s48 (fun _ hS => px_move rfl) ?_
  refine dx_take 1 rfl rfl rfl rfl (by kernel_rfl) (by kernel_rfl) (by kernel_rfl) s48 (fun _ hS => px_gt rfl rfl) ?_
  refine dx_take 2 rfl rfl rfl rfl (by kernel_rfl) (by kernel_rfl) (by kernel_rfl) s48 (fun _ hS => px_move rfl) ?_
  have h44 : ¬ ((0 : Int) < q) := by omega
  refine dx_tmpPF (t := 31) rfl h44 ?_
  refine dx_skip 3 rfl rfl rfl rfl rfl rfl rfl (by kernel_rfl) (by kernel_rfl) (by kernel_rfl) s48 ?_
  refine dx_skip 4 rfl rfl rfl rfl rfl rfl rfl (by kernel_rfl) (by kernel_rfl) (by kernel_rfl) s48 ?_
  refine dx_skip 5 rfl rfl rfl rfl rfl rfl rfl (by kernel_rfl) (by kernel_rfl) (by kernel_rfl) s48 ?_
  refine dx_skip 6 rfl rfl rfl rfl rfl rfl rfl (by kernel_rfl) (by kernel_rfl) (by kernel_rfl) s48 ?_
  refine dx_skip 7 rfl rfl rfl rfl rfl rfl rfl (by kernel_rfl) (by kernel_rfl) (by kernel_rfl) s48 ?_
  refine dx_skip 8 rfl rfl rfl rfl rfl rfl rfl (by kernel_rfl) (by kernel_rfl) (by kernel_rfl) s48 ?_
  refine dx_skip 9 rfl rfl rfl rfl rfl rfl rfl (by kernel_rfl) (by kernel_rfl) (by kernel_rfl) s48 ?_
  refine dx_skip 10 rfl rfl rfl rfl rfl rfl rfl (by kernel_rfl) (by kernel_rfl) (by kernel_rfl) s48 ?_
  refine dx_skip 11 rfl rfl rfl rfl rfl rfl rfl (by kernel_rfl) (by kernel_rfl) (by kernel_rfl) s48 ?_
  refine dx_skip 12 rfl rfl rfl rfl rfl rfl rfl (by kernel_rfl) (by kernel_rfl) (by kernel_rfl) s48 ?_
  refine dx_take 13 rfl rfl rfl rfl (by kernel_rfl) (by kernel_rfl) (by kernel_rfl) s48 (fun _ hS => px_pick rfl rfl) ?_
  refine dx_take 14 rfl rfl rfl rfl (by kernel_rfl) (by kernel_rfl) (by kernel_rfl) s48 (fun _ hS => px_move rfl) ?_
  refine dx_skip 15 rfl rfl rfl rfl rfl rfl rfl (by kernel_rfl) (by kernel_rfl) (by kernel_rfl) s48 ?_
  refine dx_skip 16 rfl rfl rfl rfl rfl rfl rfl (by kernel_rfl) (by kernel_rfl) (by kernel_rfl) s48 ?_
  refine dx_skip 17 rfl rfl rfl rfl rfl rfl rfl (by kernel_rfl) (by kernel_rfl) (by kernel_rfl) s48 ?_
  refine dx_skip 18 rfl rfl rfl rfl rfl rfl rfl (by kernel_rfl) (by kernel_rfl) (by kernel_rfl) s48 ?_
  refine dx_skip 19 rfl rfl rfl rfl rfl rfl rfl (by kernel_rfl) (by kernel_rfl) (by kernel_rfl) s48 ?_
  refine dx_skip 20 rfl rfl rfl rfl rfl rfl rfl (by kernel_rfl) (by kernel_rfl) (by kernel_rfl) s48 ?_
  refine dx_skip 21 rfl rfl rfl rfl rfl rfl rfl (by kernel_rfl) (by kernel_rfl) (by kernel_rfl) s48 ?_
  refine dx_skip 22 rfl rfl rfl rfl rfl rfl rfl (by kernel_rfl) (by kernel_rfl) (by kernel_rfl) s48 ?_
  refine dx_skip 23 rfl rfl rfl rfl rfl rfl rfl (by kernel_rfl) (by kernel_rfl) (by kernel_rfl) s48 ?_
  refine dx_skip 24 rfl rfl rfl rfl rfl rfl rfl (by kernel_rfl) (by kernel_rfl) (by kernel_rfl) s48 ?_
  refine dx_skip 25 rfl rfl rfl rfl rfl rfl rfl (by kernel_rfl) (by kernel_rfl) (by kernel_rfl) s48 ?_
  refine dx_skip 26 rfl rfl rfl rfl rfl rfl rfl (by kernel_rfl) (by kernel_rfl) (by kernel_rfl) s48 ?_
  refine dx_skip 27 rfl rfl rfl rfl rfl rfl rfl (by kernel_rfl) (by kernel_rfl) (by kernel_rfl) s48 ?_
  refine dx_skip 28 rfl rfl rfl rfl rfl rfl rfl (by kernel_rfl) (by kernel_rfl) (by kernel_rfl) s48 ?_
  refine dx_skip 29 rfl rfl rfl rfl rfl rfl rfl (by kernel_rfl) (by kernel_rfl) (by kernel_rfl) s48 ?_
  refine dx_skip 30 rfl rfl rfl rfl rfl rfl rfl (by kernel_rfl) (by kernel_rfl) (by kernel_rfl) s48 ?_
  refine dx_skip 31 rfl rfl rfl rfl rfl rfl rfl (by kernel_rfl) (by kernel_rfl) (by kernel_rfl) s48 ?_
  refine dx_skip 32 rfl rfl rfl rfl rfl rfl rfl (by kernel_rfl) (by kernel_rfl) (by kernel_rfl) s48 ?_
  refine dx_skip 33 rfl rfl rfl rfl rfl rfl rfl (by kernel_rfl) (by kernel_rfl) (by kernel_rfl) s48 ?_
  refine dx_skip 34 rfl rfl rfl rfl rfl rfl rfl (by kernel_rfl) (by kernel_rfl) (by kernel_rfl) s48 ?_
  refine dx_skip 35 rfl rfl rfl rfl rfl rfl rfl (by kernel_rfl) (by kernel_rfl) (by kernel_rfl) s48 ?_
  refine dx_skip 36 rfl rfl rfl rfl rfl rfl rfl (by kernel_rfl) (by kernel_rfl) (by kernel_rfl) s48 ?_
  refine dx_skip 37 rfl rfl rfl rfl rfl rfl rfl (by kernel_rfl) (by kernel_rfl) (by kernel_rfl) s48 ?_
  refine dx_skip 38 rfl rfl rfl rfl rfl rfl rfl (by kernel_rfl) (by kernel_rfl) (by kernel_rfl) s48 ?_
  refine dx_take 39 rfl rfl rfl rfl (by kernel_rfl) (by kernel_rfl) (by kernel_rfl) s48 (fun _ hS => px_pick rfl rfl) ?_
  refine dx_done (by kernel_rfl) ?_
  refine q_n (k10 _ _ ?_)
  refine sx_sub (Sub.cons (t := 0) rfl (.cons (t := 1) rfl (.cons (t := 5) rfl (.cons (t := 6) rfl (.cons (t := 7) rfl (.cons (t := 68) rfl (.nil))))))) ?_
  refine sx_condF rfl ?_
  refine sx_exit ?_
  refine q_e (q_e (q_bx (q_n (k7 _ _ ?_))))
  refine sx_seq fun K49 k49 => ?_
  refine sx_seq fun K50 k50 => ?_
  have hge := guess_end h2 hzl rfl hz hy hv1 rfl hg (by first | exact .inl (by omega) | exact .inr (.inl (by omega)) | exact .inr (.inr (by omega)))
  refine sx_region ?_
  refine sm rfl rfl rfl rfl ?_
  refine sm rfl rfl rfl rfl ?_
  refine sm rfl rfl rfl rfl ?_
  have f51 := f46.ext d48
  have f52 := f47.ext d48
  refine sx_call rfl rfl Try.call112 (c_subTimes f51 f52 (by omega) (by omega) (by assumption) (by assumption) (by omega) (by omega)) (fun v53 w53 p53 => ?_)
  obtain ⟨os53, rfl, ova_53, hs53, c53⟩ := p53
  have zw53 := c53.size
  have hol := hs53.1.trans hzl
  have hlmx := hs53.2.1
  have hst := step_sub hzl hz hy rfl hV hq0 hg.up hge hol hs53.2.1 hs53.2.2
  refine wl_nil (q_n (k50 _ _ ?_))
  refine sx_condP rfl (fun h47 => ?_) (fun h47 => ?_)
  ·
   have hs2 := hst.2 h47
   have hs3 := hs2.1
   refine sx_seq fun K54 k54 => sx_region ?_
   refine sm rfl rfl rfl rfl ?_
   refine sx_pure rfl rfl rfl (px_sub rfl rfl (by omega)) ?_
   refine sa rfl rfl rfl rfl ?_
   refine wl_nil (q_n (k54 _ _ ?_))
   refine sx_region ?_
   refine sm rfl rfl rfl rfl ?_
   refine sm rfl rfl rfl rfl ?_
   have f55 := f52.chg c53 (by omega)
   refine sx_call rfl rfl Try.call113 (c_addBack ova_53 f55 (by omega) (hol) (by assumption) (by assumption) (by omega) (by omega)) (fun v56 w56 p56 => ?_)
   obtain ⟨os56, rfl, ova_56, hs56, c56⟩ := p56
   have zw56 := c56.size
   have hfl := hs56.1.trans hol
   have hfin := hs2.2.2 _ hfl hs56.2.1 hs56.2.2
   refine wl_nil (q_n (k49 _ _ ?_))
   refine sx_sub (Sub.cons (t := 7) rfl (.nil)) ?_
   refine sx_seq fun K57 k57 => sx_region ?_
   refine sm rfl rfl rfl rfl ?_
   refine sa rfl rfl rfl rfl ?_
   refine wl_nil (q_n (k57 _ _ ?_))
   refine sx_retc ?_
   refine sx_ret1 Try.results82 rfl ?_
   have q58 := Chg.step (l := lva) (h := uva) (Chg.zero (l := lva) (h := uva) ((d4.t cwl8).t d48)) c53 (by omega)
   have q59 := Chg.step (l := lva) (h := uva) q58 c56 (by omega)
   exact ⟨_, by rw [hs2.2.1], ova_56, ⟨hfin.1, by omega, hfin.2⟩, q59⟩
  ·
   have hs1 := hst.1 (by omega)
   refine sx_skip ?_
   refine q_n (k49 _ _ ?_)
   refine sx_seq fun K60 k60 => sx_region ?_
   refine sm rfl rfl rfl rfl ?_
   refine sa rfl rfl rfl rfl ?_
   refine wl_nil (q_n (k60 _ _ ?_))
   refine sx_retc ?_
   refine sx_ret1 Try.results82 rfl ?_
   have q61 := Chg.step (l := lva) (h := uva) (Chg.zero (l := lva) (h := uva) ((d4.t cwl8).t d48)) c53 (by omega)
   exact ⟨_, by rw [hs1.1], ova_53, ⟨hs1.2.1, by omega, hs1.2.2⟩, q61⟩

theorem c_natDiv {w : World} {va : Value} {lva uva : Nat} {m : Nat} {vb : Value} {lvb uvb : Nat} {n : Nat} (hva : Sl w lva uva va (dg m)) (hvb : Sl w lvb uvb vb (dg n)) (hbm : (dg m).length ≤ 400) (hbn : (dg n).length ≤ 400) (hn0 : 0 < n) :
  Ret Try.prog 43 [va, vb] w fun v w' => ∃ s t, v = .tuple #[s, t] ∧ OwnI w' w.heap.size w'.heap.size s intT (dg (m / n)) ∧ OwnI w' w.heap.size w'.heap.size t intT (dg (m % n)) ∧ Chg 0 0 w w' := by
 have hva0 := hva.fit
 have hvb0 := hvb.fit
 have htp := dg_top hn0
 have hbt := (Lm_dg n).getD ((dg n).length - 1)
 refine sx_enter Try.func43 rfl Try.ntmps43 (Nat.le_of_ble_eq_true rfl) ?_
 refine sx_seq fun K1 k1 => sx_region ?_
 refine sa rfl rfl rfl rfl ?_
 refine sa rfl rfl rfl rfl ?_
 refine wl_nil (q_n (k1 _ _ ?_))
 refine sx_seq fun K2 k2 => ?_
 refine sx_seq fun K3 k3 => sx_region ?_
 refine sm rfl rfl rfl rfl ?_
 refine sm rfl rfl rfl rfl ?_
 refine sx_call rfl rfl Try.call78 (c_natCmp hva0 hvb0 (by omega)) (fun v4 w4 p4 => ?_)
 obtain ⟨rfl, c4⟩ := p4
 have zw4 := c4.size
 refine sx_pure rfl rfl rfl (px_lt rfl rfl) ?_
 refine wl_nil (q_n (k3 _ _ ?_))
 refine sx_condP rfl (fun h17 => ?_) (fun h17 => ?_)
 ·
  rw [cmpL_dg] at h17
  have hlt := cmpN_neg.1 h17
  refine sx_seq fun K5 k5 => sx_region ?_
  refine sx_lit0 rfl xelt22 (fun s6 ws6 ss6 fs6 cs6 => ?_)
  have zws6 := cs6.size
  refine sm rfl rfl rfl rfl ?_
  have f7 := hva0.ext c4
  have f8 := f7.ext cs6
  refine sx_call rfl rfl Try.call79 (c_natCopy f8 (by omega)) (fun v9 w9 p9 => ?_)
  obtain ⟨s9, rfl, os_9, c9⟩ := p9
  have zw9 := c9.size
  refine sa rfl rfl rfl rfl ?_
  refine sa rfl rfl rfl rfl ?_
  refine wl_nil (q_n (k5 _ _ ?_))
  refine sx_retc ?_
  refine q_r (sx_ret2 Try.results43 rfl rfl ?_)
  rw [Nat.div_eq_of_lt hlt, Nat.mod_eq_of_lt hlt, dg_zero]
  have f10 := fs6.ext c9
  exact ⟨_, _, rfl, (Own.mono f10 (by omega) (by omega)), (Own.mono os_9 (by omega) (by omega)), ((c4.t cs6).t c9)⟩
 ·
  rw [cmpL_dg] at h17
  have hge := Nat.le_of_not_lt (mt cmpN_neg.2 h17)
  have hab := len_le hge
  have hb0 := len_pos.2 hn0
  refine sx_skip ?_
  refine q_n (k2 _ _ ?_)
  refine sx_seq fun K11 k11 => ?_
  refine sx_seq fun K12 k12 => sx_region ?_
  refine sm rfl rfl rfl rfl ?_
  have f13 := hvb0.ext c4
  refine sx_pure rfl rfl rfl (px_len rfl Try.underlying22 f13) ?_
  refine sx_pure rfl rfl rfl (px_eq rfl rfl) ?_
  refine wl_nil (q_n (k12 _ _ ?_))
  refine sx_condP rfl (fun h20 => ?_) (fun h20 => ?_)
  ·
   refine sx_seq fun K14 k14 => sx_region ?_
   refine sm rfl rfl rfl rfl ?_
   refine sm rfl rfl rfl rfl ?_
   refine sx_pure rfl rfl rfl (px_index1 (j := 0) rfl rfl (by omega) Try.underlying22 Try.sizeOf3 f13 (by omega)) ?_
   refine sx_pure rfl rfl rfl (px_load rfl (f13.load1 (at_int (by omega)) Try.isAgg3)) ?_
   have f15 := hva0.ext c4
   refine sx_call rfl rfl Try.call80 (c_natSmall f15 (by omega) (by have h9 := one_limb (n := n) (by omega); omega)) (fun v16 w16 p16 => ?_)
   obtain ⟨s16, rfl, os_16, c16⟩ := p16
   have zw16 := c16.size
   refine sm rfl rfl rfl rfl ?_
   refine sx_pure rfl rfl rfl (px_extract (vs := [s16, .int .i64 ((m % (((dg n).getD 0 0)).toNat : Nat) : Int)]) rfl rfl) ?_
   refine sx_pure rfl rfl rfl (px_extract (vs := [s16, .int .i64 ((m % (((dg n).getD 0 0)).toNat : Nat) : Int)]) rfl rfl) ?_
   refine sa rfl rfl rfl rfl ?_
   refine sa rfl rfl rfl rfl ?_
   refine wl_nil (q_n (k14 _ _ ?_))
   refine sx_sub (Sub.cons (t := 0) rfl (.cons (t := 1) rfl (.cons (t := 4) rfl (.cons (t := 5) rfl (.cons (t := 6) rfl (.cons (t := 7) rfl (.nil))))))) ?_
   refine sx_seq fun K17 k17 => sx_region ?_
   refine sm rfl rfl rfl rfl ?_
   refine sm rfl rfl rfl rfl ?_
   refine sx_call rfl rfl Try.call81 (c_iNatOf (by have h9 := one_limb (n := n) (by omega); have h8 := Nat.mod_lt m (show 0 < ((dg n).getD 0 0).toNat by omega); omega)) (fun v18 w18 p18 => ?_)
   obtain ⟨s18, rfl, os_18, c18⟩ := p18
   have zw18 := c18.size
   refine sa rfl rfl rfl rfl ?_
   refine sa rfl rfl rfl rfl ?_
   refine wl_nil (q_n (k17 _ _ ?_))
   refine sx_retc ?_
   refine q_r (sx_ret2 Try.results43 rfl rfl ?_)
   have e1 := (one_limb (n := n) (by omega)).1
   have f19 := os_16.ext c18
   have r1 := f19
   have r2 := os_18
   rw [Int.toNat_natCast] at r2
   rw [e1] at r1 r2
   exact ⟨_, _, rfl, r1.mono (by omega) (by omega), r2.mono (by omega) (by omega), ((c4.t c16).t c18)⟩
  ·
   refine sx_skip ?_
   refine q_n (k11 _ _ ?_)
   refine sx_seq fun K20 k20 => sx_region ?_
   refine sm rfl rfl rfl rfl ?_
   refine sm rfl rfl rfl rfl ?_
   refine sx_pure rfl rfl rfl (px_len rfl Try.underlying22 f13) ?_
   refine sx_pure rfl rfl rfl (px_sub rfl rfl (by omega)) ?_
   refine sx_pure rfl rfl rfl (px_index1 (j := ((dg n).length - 1)) rfl rfl (by omega) Try.underlying22 Try.sizeOf3 f13 (by omega)) ?_
   refine sx_pure rfl rfl rfl (px_load rfl (f13.load1 (at_int (by omega)) Try.isAgg3)) ?_
   refine sx_pure rfl rfl rfl (px_add rfl rfl (by omega)) ?_
   refine sx_pure rfl rfl rfl (px_quo rfl rfl (by omega) (by omega) (by omega)) ?_
   refine sa rfl rfl rfl rfl ?_
   refine wl_nil (q_n (k20 _ _ ?_))
   refine sx_sub (Sub.cons (t := 0) rfl (.cons (t := 1) rfl (.cons (t := 4) rfl (.cons (t := 5) rfl (.cons (t := 8) rfl (.nil)))))) ?_
   refine sx_seq fun K21 k21 => ?_
   have hsb := scale_bd htp (by omega)
   generalize 1000000000 / (((dg n).getD ((dg n).length - 1) 0) + 1) = s at *
   have evs : vl [s] = s.toNat := by simp [vl]
   have hpos : 0 < n * s.toNat := Nat.mul_pos hn0 (by omega)
   refine sx_region ?_
   refine sm rfl rfl rfl rfl ?_
   refine sm rfl rfl rfl rfl ?_
   refine sx_lit1 rfl xelt22 rfl rfl (fun s22 ws22 ss22 fs22 cs22 => ?_)
   have ns22 := Own.norm (f := (Value.int .i64)) (zs := [s]) fs22
   have zws22 := cs22.size
   have f23 := hva0.ext c4
   have f24 := f23.ext cs22
   refine sx_call rfl rfl Try.call77 (c_natMulS f24 ns22.sv (by omega) (by simp only [List.length_cons, List.length_nil]; omega) (one_dg (by omega) (by omega))) (fun v25 w25 p25 => ?_)
   obtain ⟨s25, rfl, os_25, c25⟩ := p25
   have zw25 := c25.size
   refine sa rfl rfl rfl rfl ?_
   refine wl_nil (q_n (k21 _ _ ?_))
   refine sx_seq fun K26 k26 => ?_
   have f27 := os_25
   rw [evs] at f27
   refine sx_region ?_
   refine sm rfl rfl rfl rfl ?_
   refine sm rfl rfl rfl rfl ?_
   refine sx_lit1 rfl xelt22 rfl rfl (fun s28 ws28 ss28 fs28 cs28 => ?_)
   have ns28 := Own.norm (f := (Value.int .i64)) (zs := [s]) fs28
   have zws28 := cs28.size
   have f29 := f13.ext cs22
   have f30 := f29.ext c25
   have f31 := f30.ext cs28
   refine sx_call rfl rfl Try.call77 (c_natMulS f31 ns28.sv (by omega) (by simp only [List.length_cons, List.length_nil]; omega) (one_dg (by omega) (by omega))) (fun v32 w32 p32 => ?_)
   obtain ⟨s32, rfl, os_32, c32⟩ := p32
   have zw32 := c32.size
   refine sa rfl rfl rfl rfl ?_
   refine wl_nil (q_n (k26 _ _ ?_))
   refine sx_sub (Sub.cons (t := 0) rfl (.cons (t := 4) rfl (.cons (t := 5) rfl (.cons (t := 8) rfl (.cons (t := 9) rfl (.cons (t := 10) rfl (.nil))))))) ?_
   refine sx_seq fun K33 k33 => ?_
   refine sx_block ?_
   have f34 := os_32
   rw [evs] at f34
   have hlv := scale_len hn0 hsb.1 hsb.2.2
   have hlu := len_mul m s.toNat
   have hl1 : (dg s.toNat).length ≤ 1 := dg_len_le (by simp only [Bs]; omega)
   have f36 := f27.ext cs28
   have f37 := f36.ext c32
   refine sx_loop (fun mm aa w' => ∃ (su : Value) (us : List Int) (gl : Nat) (gh : Nat), Agr 97 [(0, va), (8, .int .i64 s), (9, su), (10, v32)] aa ∧ Chg ws22.heap.size w32.heap.size w32 w' ∧ Own w' gl gh su intT us.length 1 (us.map (Value.int .i64)) ∧ Own w' ws28.heap.size w32.heap.size v32 intT ((dg (n * s.toNat)).length) 1 ((dg (n * s.toNat)).map (Value.int .i64)) ∧ (mm = (dg m).length + 1 - us.length) ∧ ((gl = ws22.heap.size ∧ gh = w25.heap.size) ∨ w32.heap.size ≤ gl) ∧ (gl ≤ w'.heap.size ∧ gh ≤ w'.heap.size) ∧ (Lm us) ∧ (vl us = m * s.toNat) ∧ (us.length ≤ (dg m).length + 1)) (_) (fun a ha => ⟨v25, dg (m * s.toNat), ws22.heap.size, w25.heap.size, ha.sub (Sub.cons (t := 0) rfl (.cons (t := 8) rfl (.cons (t := 9) rfl (.cons (t := 10) rfl (.nil))))), Chg.refl _ _ _, f37, f34, rfl, .inl ⟨rfl, rfl⟩, by omega, Lm_dg _, vl_dg _, by omega⟩) ?_
   rintro mm aa wl35 ⟨su, us, gl, gh, hAwl35, cwl35, hs_su, hs_v32, hm, hgl, hgh, hlm, hv, hul⟩
   refine (show cw Try.prog 97 _ _ _ wl35 from ?_) aa hAwl35
   clear hAwl35
   have zwl35 := cwl35.size
   refine sx_seq fun K38 k38 => ?_
   refine sx_seq fun K39 k39 => sx_region ?_
   refine sm rfl rfl rfl rfl ?_
   refine sx_pure rfl rfl rfl (px_len rfl Try.underlying22 hs_su.sv) ?_
   refine sm rfl rfl rfl rfl ?_
   have f40 := f24.ext c25
   have f41 := f40.ext cs28
   have f42 := f41.ext c32
   have f43 := f42.chg cwl35 (by omega)
   refine sx_pure rfl rfl rfl (px_len rfl Try.underlying22 f43) ?_
   refine sx_pure rfl rfl rfl (px_le rfl rfl) ?_
   refine wl_nil (q_n (k39 _ _ ?_))
   refine sx_condP rfl (fun h27 => ?_) (fun h27 => ?_)
   ·
    refine sx_skip ?_
    refine q_n (k38 _ _ ?_)
    refine sx_block ?_
    refine sx_region ?_
    refine sm rfl rfl rfl rfl ?_
    refine sx_lit1 rfl xelt22 rfl rfl (fun s44 ws44 ss44 fs44 cs44 => ?_)
    have ns44 := Own.norm (f := (Value.int .i64)) (zs := [0]) fs44
    have zws44 := cs44.size
    have f46 := hs_su.ext cs44
    refine sx_append2 rfl xelt22 rfl rfl f46 ns44.sv (by simp) one_int (by omega) (by simp only [List.length_cons, List.length_nil]; omega) (by unfold maxLen; simp only [List.length_cons, List.length_nil]; omega) (fun a45 w45 alw45 ahw45 adw45 fw45 cw45 => ?_)
    have nw45 := Own.app (f := (Value.int .i64)) (a := us) (b := [0]) fw45
    have zw45 := cw45.size
    refine sa rfl rfl rfl rfl ?_
    refine wl_nil ?_
    have q47 := Chg.step (l := ws22.heap.size) (h := w32.heap.size) cwl35 cs44 (by omega)
    have q48 := Chg.step (l := ws22.heap.size) (h := w32.heap.size) q47 cw45 (by omega)
    have f49 := hs_v32.ext cs44
    have f50 := f49.chg cw45 (by omega)
    have happ : (us ++ ([0])).length = us.length + 1 := by simp
    exact q_bn (fun a ha => ⟨_, by omega, a45, (us ++ ([0])), alw45, ahw45, ha.sub (Sub.cons (t := 0) rfl (.cons (t := 8) rfl (.cons (t := 9) rfl (.cons (t := 10) rfl (.nil))))), q48, (nw45.mono (by omega) (by omega)), (f50.mono (by omega) (by omega)), rfl, by omega, by omega, hlm.append (Lm.single (by decide) (by decide)), by rw [vl_concat]; simpa using hv, by simp only [List.length_append, List.length_cons, List.length_nil]; omega⟩)
   ·
    refine sx_exit ?_
    refine q_e (q_e (q_bx (q_n (k33 _ _ ?_))))
    refine sx_seq fun K51 k51 => ?_
    have hul2 : us.length = (dg m).length + 1 := by omega
    refine sx_region ?_
    refine sm rfl rfl rfl rfl ?_
    refine sx_pure rfl rfl rfl (px_len rfl Try.underlying22 hs_v32.sv) ?_
    refine sa rfl rfl rfl rfl ?_
    refine wl_nil (q_n (k51 _ _ ?_))
    refine sx_seq fun K52 k52 => sx_region ?_
    refine sm rfl rfl rfl rfl ?_
    refine sx_pure rfl rfl rfl (px_len rfl Try.underlying22 hs_su.sv) ?_
    refine sm rfl rfl rfl rfl ?_
    refine sx_pure rfl rfl rfl (px_sub rfl rfl (by omega)) ?_
    refine sx_make (c := (us.length - (dg (n * s.toNat)).length)) rfl xelt22 (look_int rfl (by omega)) (look_int rfl (by omega)) (by omega) (by unfold maxLen; omega) (fun s53 ws53 fs53 cs53 ls53 => ?_)
    have ns53 := fs53.made
    have zws53 := cs53.size
    refine sa rfl rfl rfl rfl ?_
    refine wl_nil (q_n (k52 _ _ ?_))
    refine sx_sub (Sub.cons (t := 8) rfl (.cons (t := 9) rfl (.cons (t := 10) rfl (.cons (t := 11) rfl (.cons (t := 12) rfl (.nil)))))) ?_
    refine sx_seq fun K54 k54 => ?_
    refine sx_seq fun K55 k55 => ?_
    have hrl : (List.replicate (us.length - (dg (n * s.toNat)).length) (0 : Int)).length = us.length - (dg (n * s.toNat)).length := List.length_replicate
    refine sx_region ?_
    refine sm rfl rfl rfl rfl ?_
    refine sx_pure rfl rfl rfl (px_len rfl Try.underlying22 ns53.sv) ?_
    refine sx_pure rfl rfl rfl (px_sub rfl rfl (by omega)) ?_
    refine sa rfl rfl rfl rfl ?_
    refine wl_nil (q_n (k55 _ _ ?_))
    refine sx_block ?_
    have f57 := hs_su.ext cs53
    have f58 := hs_v32.ext cs53
    refine sx_loop (fun mm aa w' => ∃ (k : Nat) (U : List Int) (qs : List Int), Agr 97 [(8, .int .i64 s), (9, su), (10, v32), (11, .int .i64 (↑(dg (n * s.toNat)).length)), (12, s53), (13, .int .i64 (↑k - 1))] aa ∧ Chg ws22.heap.size ws53.heap.size ws53 w' ∧ Own w' gl gh su intT U.length 1 (U.map (Value.int .i64)) ∧ Own w' wl35.heap.size ws53.heap.size s53 intT qs.length 1 (qs.map (Value.int .i64)) ∧ Own w' ws28.heap.size w32.heap.size v32 intT ((dg (n * s.toNat)).length) 1 ((dg (n * s.toNat)).map (Value.int .i64)) ∧ (mm = k) ∧ (k ≤ ((dg m).length + 1 - (dg n).length)) ∧ (qs.length = ((dg m).length + 1 - (dg n).length)) ∧ (U.length = (dg m).length + 1) ∧ (Lm U) ∧ (Lm qs) ∧ (vl (U.drop k) < n * s.toNat) ∧ (m * s.toNat = vl U + Bs ^ k * (n * s.toNat * vl (qs.drop k)))) (_) (fun a ha => ⟨((dg m).length + 1 - (dg n).length), us, List.replicate (us.length - (dg (n * s.toNat)).length) 0, ha.sub (Sub.cons (t := 8) rfl (.cons (t := 9) rfl (.cons (t := 10) rfl (.cons (t := 11) (look_int (t := 11) rfl (by first | omega | (simp only [List.length_replicate]; omega) | simp)) (.cons (t := 12) rfl (.cons (t := 13) (look_int (t := 13) rfl (by first | omega | (simp only [List.length_replicate]; omega) | simp)) (.nil))))))), Chg.refl _ _ _, f57, ns53, f58, rfl, by omega, by rw [List.length_replicate]; omega, by omega, by omega, Lm.replicate _, top_init hul2 rfl rfl (len_pos.2 hn0) (by omega) (by omega) hv, by rw [vl_drop_end (by rw [List.length_replicate]; omega)]; simpa using hv.symm⟩) ?_
    rintro mm aa wl56 ⟨k, U, qs, hAwl56, cwl56, hs_su, hs_s53, hs_v32, hm, hk, hql, hUl, hUm, hQm, htp, hV⟩
    refine (show cw Try.prog 97 _ _ _ wl56 from ?_) aa hAwl56
    clear hAwl56
    have zwl56 := cwl56.size
    refine sx_seq fun K59 k59 => ?_
    refine sx_seq fun K60 k60 => sx_region ?_
    refine sm rfl rfl rfl rfl ?_
    refine sx_pure rfl rfl rfl (px_ge rfl rfl) ?_
    refine wl_nil (q_n (k60 _ _ ?_))
    refine sx_condP rfl (fun h32 => ?_) (fun h32 => ?_)
    ·
     refine sx_skip ?_
     refine q_n (k59 _ _ ?_)
     refine sx_seq fun K61 k61 => ?_
     refine sx_block ?_
     have hw := win_of (j := k - 1) (n := (dg (n * s.toNat)).length) hUm (by omega) (lt_of_dg_len (Nat.le_refl _)) (by rw [Nat.sub_add_cancel (by omega)]; exact htp)
     refine sx_region ?_
     refine sm rfl rfl rfl rfl ?_
     refine sm rfl rfl rfl rfl ?_
     refine sm rfl rfl rfl rfl ?_
     refine sm rfl rfl rfl rfl ?_
     refine sm rfl rfl rfl rfl ?_
     refine sm rfl rfl rfl rfl ?_
     refine sx_pure rfl rfl rfl (px_add rfl rfl (by omega)) ?_
     refine sx_pure rfl rfl rfl (px_add rfl rfl (by omega)) ?_
     obtain ⟨suf62, hw62, hb62⟩ := Own.win hs_su (a := (k - 1)) (b := (k - 1 + (dg (n * s.toNat)).length + 1)) (by omega) (by omega)
     refine sx_pure rfl rfl rfl (px_sliceMid (l := (k - 1)) (h := (k - 1 + (dg (n * s.toNat)).length + 1)) rfl rfl rfl (by omega) (by omega) Try.underlying22 Try.sizeOf3 hs_su.sv (by omega) (by omega)) ?_
     refine sm rfl rfl rfl rfl ?_
     refine sx_call rfl rfl Try.call82 (c_divStep hw62 hs_v32.sv (by omega) (by rw [List.length_take, List.length_drop]; omega) (by omega) (Lm.take (Lm.drop hUm _) _) (Lm_dg _) (dg_getD_pos hpos rfl) (by rw [vl_dg, hw.1]; exact hw.2.1) (by rw [List.length_take, List.length_drop]; omega)) (fun v63 w63 p63 => ?_)
     obtain ⟨os63, rfl, ova_63, hs63, c63⟩ := p63
     have zw63 := c63.size
     have f64 := hb62 _ _ ova_63
     have hol := hs63.2.1
     rw [List.length_take, List.length_drop] at hol
     have hdl := hs63.1
     have hp := div_put (us := U) (qs := qs) (ys := os63) (n := (dg (n * s.toNat)).length) (V := n * s.toNat) (by omega) (by omega) (by omega) rfl hw.2.2 (by omega) (by rw [hs63.2.2, hw.1, vl_dg]) hV
     have hqd : vl ((U.drop (k - 1)).take (k - 1 + (dg (n * s.toNat)).length + 1 - (k - 1))) / vl (dg (n * s.toNat)) < 1000000000 := by rw [hw.1, vl_dg]; exact (Nat.div_lt_iff_lt_mul hpos).2 hw.2.1
     have hqn : (0 : Int) ≤ ((vl ((U.drop (k - 1)).take (k - 1 + (dg (n * s.toNat)).length + 1 - (k - 1))) / vl (dg (n * s.toNat)) : Nat) : Int) := Int.natCast_nonneg _
     have f65 := hs_s53.chg c63 (by omega)
     refine sx_pure rfl rfl rfl (px_index1 (j := (k - 1)) rfl rfl (by omega) Try.underlying22 Try.sizeOf3 f65.sv (by omega)) ?_
     refine sx_storeO rfl rfl f65 (by first | omega | (simp only [List.length_map]; omega)) Try.sizeOf3 rfl (fun w66 sw66 fw66 cw66 => ?_)
     have zw66 := cw66.size
     have nw66 := fw66.set
     refine wl_nil ?_
     refine q_bn (q_n (k61 _ _ ?_))
     refine sx_sub (Sub.cons (t := 8) rfl (.cons (t := 9) rfl (.cons (t := 10) rfl (.cons (t := 11) rfl (.cons (t := 12) rfl (.cons (t := 13) rfl (.nil))))))) ?_
     refine sx_region ?_
     refine sm rfl rfl rfl rfl ?_
     refine sx_pure rfl rfl rfl (px_sub rfl rfl (by omega)) ?_
     refine sa rfl rfl rfl rfl ?_
     refine wl_nil ?_
     have q67 := Chg.step (l := ws22.heap.size) (h := ws53.heap.size) cwl56 c63 (by omega)
     have q68 := Chg.step (l := ws22.heap.size) (h := ws53.heap.size) q67 cw66 (by omega)
     have f69 := f64.chg cw66 (by omega)
     have f70 := hs_v32.chg c63 (by omega)
     have f71 := f70.chg cw66 (by omega)
     exact fun a ha => ⟨_, by omega, (k - 1), (U.take (k - 1) ++ os63 ++ U.drop (k - 1 + (dg (n * s.toNat)).length + 1)), ((qs).set (k - 1) ((vl ((U.drop (k - 1)).take ((k - 1 + (dg (n * s.toNat)).length + 1) - (k - 1))) / vl (dg (n * s.toNat)) : Nat) : Int)), ha.sub (Sub.cons (t := 8) rfl (.cons (t := 9) rfl (.cons (t := 10) rfl (.cons (t := 11) rfl (.cons (t := 12) rfl (.cons (t := 13) (look_int (t := 13) rfl (by first | omega | (simp only [List.length_replicate]; omega) | simp)) (.nil))))))), q68, (f69.mono (by omega) (by omega)), (nw66.mono (by omega) (by omega)), (f71.mono (by omega) (by omega)), rfl, by omega, by rw [List.length_set]; exact hql, by simp only [List.length_append, List.length_take, List.length_drop]; omega, ((hUm.take _).append hdl).append (Lm.drop hUm _), hQm.set _ (by omega) (by omega), by rw [hp.1]; exact Nat.mod_lt _ hpos, by rw [hw.1, vl_dg]; exact hp.2⟩
    ·
     refine sx_exit ?_
     refine q_e (q_e (q_bx (q_n (k54 _ _ ?_))))
     refine sx_seq fun K72 k72 => ?_
     have ek : k = 0 := by omega
     subst ek
     rw [List.drop_zero] at hV htp
     have hse := scaled_end (s := s.toNat) (by omega) hn0 hV htp
     have e1 : vl U / s.toNat = m % n := by rw [hse.2, Nat.mul_div_cancel _ (by omega)]
     refine sx_region ?_
     refine sm rfl rfl rfl rfl ?_
     refine sx_call rfl rfl Try.call83 (c_trim hs_su (by assumption) (by first | omega | (simp only [List.length_append, List.length_set, List.length_replicate, List.length_cons, List.length_nil] at *; omega))) (fun v73 w73 p73 => ?_)
     obtain ⟨s73, rfl, os_73, c73⟩ := p73
     have zw73 := c73.size
     refine sm rfl rfl rfl rfl ?_
     refine sx_call rfl rfl Try.call80 (c_natSmall os_73.sv (Nat.le_trans (dg_len_le (vl_lt hUm)) (by omega)) (by omega)) (fun v74 w74 p74 => ?_)
     obtain ⟨s74, rfl, os_74, c74⟩ := p74
     have zw74 := c74.size
     refine sm rfl rfl rfl rfl ?_
     refine sx_pure rfl rfl rfl (px_extract (vs := [s74, .int .i64 (((vl U) % (s).toNat : Nat) : Int)]) rfl rfl) ?_
     refine sx_pure rfl rfl rfl (px_extract (vs := [s74, .int .i64 (((vl U) % (s).toNat : Nat) : Int)]) rfl rfl) ?_
     refine sa rfl rfl rfl rfl ?_
     refine sa rfl rfl rfl rfl ?_
     refine wl_nil (q_n (k72 _ _ ?_))
     refine sx_sub (Sub.cons (t := 12) rfl (.cons (t := 14) rfl (.nil))) ?_
     refine sx_seq fun K75 k75 => sx_region ?_
     refine sm rfl rfl rfl rfl ?_
     have f76 := hs_s53.ext c73
     have f77 := f76.ext c74
     refine sx_call rfl rfl Try.call83 (c_trim f77 (by assumption) (by first | omega | (simp only [List.length_append, List.length_set, List.length_replicate, List.length_cons, List.length_nil] at *; omega))) (fun v78 w78 p78 => ?_)
     obtain ⟨s78, rfl, os_78, c78⟩ := p78
     have zw78 := c78.size
     refine sm rfl rfl rfl rfl ?_
     refine sa rfl rfl rfl rfl ?_
     refine sa rfl rfl rfl rfl ?_
     refine wl_nil (q_n (k75 _ _ ?_))
     refine sx_retc ?_
     refine sx_ret2 Try.results43 rfl rfl ?_
     have r1 := os_78
     have f79 := os_74.ext c78
     have r2 := f79
     rw [hse.1] at r1
     rw [e1] at r2
     have q80 := Chg.step (l := 0) (h := 0) (Chg.zero (l := 0) (h := 0) ((((c4.t cs22).t c25).t cs28).t c32)) cwl35 (by omega)
     have q81 := Chg.step (l := 0) (h := 0) q80 cs53 (by omega)
     have q82 := Chg.step (l := 0) (h := 0) q81 cwl56 (by omega)
     have q83 := Chg.step (l := 0) (h := 0) q82 ((c73.t c74).t c78) (by omega)
     exact ⟨_, _, rfl, r1.mono (by omega) (by omega), r2.mono (by omega) (by omega), q83⟩

theorem c_iDecAt {w : World} {n1 : Bool} {v1 : Value} {lv1 uv1 : Nat} {z1 : List Int} {p1 : Int} {q : Int} (hv1 : Sl w lv1 uv1 v1 (z1)) (h63 : z1.length ≤ 4611686018427387904) :
  Ret Try.prog 11 [.agg #[.bool n1, v1, .int .i64 p1], .int .i64 q] w fun v w' => ∃ s, v = .tuple #[.agg #[.bool ((dAt n1 z1 p1 q).1), s, .int .i64 ((dAt n1 z1 p1 q).2.2.1)], .bool ((dAt n1 z1 p1 q).2.2.2)] ∧ OwnI w' w.heap.size w'.heap.size s intT ((dAt n1 z1 p1 q).2.1) ∧ ((dAt n1 z1 p1 q).2.1.length ≤ 6) ∧ Chg 0 0 w w' := by
 have hv10 := hv1.fit
 refine sx_enter Try.func11 rfl Try.ntmps11 (Nat.le_of_ble_eq_true rfl) ?_
 refine sx_seq fun K1 k1 => sx_region ?_
 refine sx_box [.bool n1, v1, .int .i64 p1] rfl rfl rfl (fun b2 w3 eb2 sb2 fb2 cb2 => ?_)
 have zw3 := cb2.size
 refine sx_alloc [.bool false, (.slice none 0 0), .int .i64 0] rfl Try.zeroValue30 rfl (fun b4 w5 eb4 sb4 fb4 cb4 => ?_)
 have zw5 := cb4.size
 refine sa rfl rfl rfl rfl ?_
 refine wl_nil (q_n (k1 _ _ ?_))
 refine sx_seq fun K6 k6 => ?_
 refine sx_seq fun K7 k7 => sx_region ?_
 have f8 := fb2.ext cb4
 refine sx_pure rfl rfl rfl (px_load rfl (f8.loadA (vs := [.bool n1, v1, .int .i64 p1]) (look_lit rfl) Try.isAgg30 Try.sizeOf30)) ?_
 have f9 := hv10.ext cb2
 have f10 := f9.ext cb4
 refine sx_call rfl rfl Try.call39 (c_iDecOk f10 (by omega)) (fun v11 w11 p11 => ?_)
 obtain ⟨rfl, c11⟩ := p11
 have zw11 := c11.size
 refine sx_pure rfl rfl rfl (px_notP rfl) ?_
 refine sm rfl rfl rfl rfl ?_
 refine sx_tmpP (t := 11) rfl (fun h87 => ?_) (fun h87 => ?_)
 ·
  refine sx_guardF rfl rfl rfl rfl rfl rfl ?_
  refine sx_guardF rfl rfl rfl rfl rfl rfl ?_
  refine sx_guardF rfl rfl rfl rfl rfl rfl ?_
  refine sx_pure rfl rfl rfl (px_pick rfl rfl) ?_
  refine wl_nil (q_n (k7 _ _ ?_))
  refine sx_condT rfl ?_
  refine sx_seq fun K12 k12 => sx_region ?_
  refine sx_pure rfl rfl rfl (px_build rfl (xbld30x  _)) ?_
  have f14 := fb4.ext c11
  refine sx_store (vs := [.bool false, (.slice none 0 0), .int .i64 0]) rfl rfl f14 rfl Try.sizeOf30 (Nat.le_of_ble_eq_true rfl) (one_cons rfl (one_cons rfl (one_cons rfl one_nil))) (fun w13 sw13 fw13 cw13 => ?_)
  have zw13 := cw13.size
  have gw13 : Blk w13 b4 [.bool false, (.slice none 0 0), .int .i64 0] 30 := fw13
  refine sa rfl rfl rfl rfl ?_
  refine wl_nil (q_n (k12 _ _ ?_))
  refine sx_retc ?_
  refine q_r (sx_ret2 Try.results11 ⟨_, rfl, gw13.loadA (vs := [.bool false, (.slice none 0 0), .int .i64 0]) (look_lit rfl) Try.isAgg30 Try.sizeOf30⟩ rfl ?_)
  rw [dAt_no (by grind)]
  have q15 := Chg.step (l := 0) (h := 0) (Chg.zero (l := 0) (h := 0) ((cb2.t cb4).t c11)) cw13 (by omega)
  exact ⟨_, rfl, Own.nil _ _ _ _ _, by simp [noD], q15⟩
 ·
  refine sx_guardT rfl rfl rfl ?_
  refine sm rfl rfl rfl rfl ?_
  refine sx_guardT rfl rfl rfl ?_
  refine sx_call rfl rfl Try.call40 (c_isScale) (fun v16 w16 p16 => ?_)
  obtain ⟨rfl, c16⟩ := p16
  have zw16 := c16.size
  refine sx_guardT rfl rfl rfl ?_
  refine sx_pure rfl rfl rfl (px_notP rfl) ?_
  refine sx_pure rfl rfl rfl (px_pick rfl rfl) ?_
  refine wl_nil (q_n (k7 _ _ ?_))
  refine sx_condP rfl (fun h87x1 => ?_) (fun h87x1 => ?_)
  ·
   refine sx_seq fun K17 k17 => sx_region ?_
   refine sx_pure rfl rfl rfl (px_build rfl (xbld30x  _)) ?_
   have f19 := fb4.ext c11
   have f20 := f19.ext c16
   refine sx_store (vs := [.bool false, (.slice none 0 0), .int .i64 0]) rfl rfl f20 rfl Try.sizeOf30 (Nat.le_of_ble_eq_true rfl) (one_cons rfl (one_cons rfl (one_cons rfl one_nil))) (fun w18 sw18 fw18 cw18 => ?_)
   have zw18 := cw18.size
   have gw18 : Blk w18 b4 [.bool false, (.slice none 0 0), .int .i64 0] 30 := fw18
   refine sa rfl rfl rfl rfl ?_
   refine wl_nil (q_n (k17 _ _ ?_))
   refine sx_retc ?_
   refine q_r (sx_ret2 Try.results11 ⟨_, rfl, gw18.loadA (vs := [.bool false, (.slice none 0 0), .int .i64 0]) (look_lit rfl) Try.isAgg30 Try.sizeOf30⟩ rfl ?_)
   rw [dAt_no (by grind)]
   have q21 := Chg.step (l := 0) (h := 0) (Chg.zero (l := 0) (h := 0) (((cb2.t cb4).t c11).t c16)) cw18 (by omega)
   exact ⟨_, rfl, Own.nil _ _ _ _ _, by simp [noD], q21⟩
  ·
   have hD := Decidable.not_not.1 h87
   have hQ := Decidable.not_not.1 h87x1
   obtain ⟨x1, rfl, rfl, hx1⟩ := hD.int
   have lt9 := ten_len' (k := p1 - q) (by omega)
   have lq9 := len_div x1.natAbs (10 ^ (p1 - q).toNat)
   have lm9 := len_mod (m := x1.natAbs) (n := 10 ^ (p1 - q).toNat) (Nat.pow_pos (by decide))
   have lu9 := len_ten (k := q - p1) (by omega)
   have lv9 := len_mulI x1 (tenI (q - p1))
   refine sx_skip ?_
   refine q_n (k6 _ _ ?_)
   refine sx_seq fun K22 k22 => ?_
   refine sx_seq fun K23 k23 => sx_region ?_
   refine sm rfl rfl rfl rfl ?_
   refine sx_pure rfl rfl rfl (px_field rfl xfld30x1) ?_
   have f24 := f8.ext c11
   have f25 := f24.ext c16
   refine sx_pure rfl rfl rfl (px_load rfl (f25.load1 rfl Try.isAgg3)) ?_
   refine sx_pure rfl rfl rfl (px_ge rfl rfl) ?_
   refine wl_nil (q_n (k23 _ _ ?_))
   refine sx_sub (Sub.cons (t := 1) rfl (.cons (t := 2) rfl (.cons (t := 4) rfl (.cons (t := 5) rfl (.cons (t := 20) rfl (.nil)))))) ?_
   refine sx_condP rfl (fun h90 => ?_) (fun h90 => ?_)
   ·
    refine sx_seq fun K26 k26 => ?_
    have f27 := f10.ext c11
    have f28 := f27.ext c16
    refine dx_region (fun w' => Chg b4 (b4 + 1) w16 w') (by kernel_rfl) (Chg.zero (Chg.drew _)) ?_
    have d29 := Chg.drew w16
    have s29 : Chg b4 (b4 + 1) w16 (World.drew w16) := Chg.zero (Chg.drew _)
    have y29 : (World.drew w16).heap.size = w16.heap.size := rfl
    generalize World.drew w16 = w29 at *
    have zw29 := d29.size
    refine dx_take 0 rfl rfl rfl rfl (by kernel_rfl) (by kernel_rfl) (by kernel_rfl) s29 (fun _ hS => px_move rfl) ?_
    refine dx_take 2 rfl rfl rfl rfl (by kernel_rfl) (by kernel_rfl) (by kernel_rfl) s29 (fun _ hS => px_load rfl ((f25.chg hS (by omega)).loadA (vs := [.bool (ng x1), v1, .int .i64 p1]) (look_lit rfl) Try.isAgg30 Try.sizeOf30)) ?_
    refine dx_take 4 rfl rfl rfl rfl (by kernel_rfl) (by kernel_rfl) (by kernel_rfl) s29 (fun _ hS => px_move rfl) ?_
    refine dx_eff 1 rfl (by kernel_rfl) ?_
    refine sx_call rfl rfl Try.call42 (c_scaled) (fun v30 w30 p30 => ?_)
    obtain ⟨b30, rfl, xb_30, hb30, c30⟩ := p30
    have zw30 := c30.size
    have s31 : Chg b4 (b4 + 1) w16 w30 := (Chg.zero (l := b4) (h := (b4 + 1)) (d29.t c30))
    refine wl_nil ?_
    refine dx_next s31 ?_
    refine dx_eff 3 rfl (by kernel_rfl) ?_
    have f32 := f28.ext d29
    have f33 := f32.ext c30
    refine sx_callV rfl rfl rfl Try.call76 (c_scaled1 f33 xb_30 (by omega) (by omega)) (fun v34 w34 p34 => ?_)
    obtain ⟨s34, rfl, os_34, c34⟩ := p34
    have zw34 := c34.size
    have s35 : Chg b4 (b4 + 1) w16 w34 := (Chg.zero (l := b4) (h := (b4 + 1)) ((d29.t c30).t c34))
    refine wl_nil ?_
    refine dx_next s35 ?_
    refine dx_eff 5 rfl (by kernel_rfl) ?_
    refine sx_call rfl rfl Try.call41 (c_decOf os_34 (by first | omega | (rw [sgI_abs]; omega)) (by omega)) (fun v36 w36 p36 => ?_)
    obtain ⟨s36, rfl, os_36, c36⟩ := p36
    have zw36 := c36.size
    have s37 : Chg b4 (b4 + 1) w16 w36 := (Chg.zero (l := b4) (h := (b4 + 1)) (((d29.t c30).t c34).t c36))
    refine wl_nil ?_
    refine dx_next s37 ?_
    refine dx_take 6 rfl rfl rfl rfl (by kernel_rfl) (by kernel_rfl) (by kernel_rfl) s37 (fun _ hS => px_extract (vs := [.agg #[.bool ((decR (x1 * tenI (q - p1)) q).1), s36, .int .i64 ((decR (x1 * tenI (q - p1)) q).2.2.1)], .bool ((decR (x1 * tenI (q - p1)) q).2.2.2)]) rfl rfl) ?_
    refine dx_take 7 rfl rfl rfl rfl (by kernel_rfl) (by kernel_rfl) (by kernel_rfl) s37 (fun _ hS => px_extract (vs := [.agg #[.bool ((decR (x1 * tenI (q - p1)) q).1), s36, .int .i64 ((decR (x1 * tenI (q - p1)) q).2.2.1)], .bool ((decR (x1 * tenI (q - p1)) q).2.2.2)]) rfl rfl) ?_
    refine dx_eff 8 rfl (by kernel_rfl) ?_
    have f39 := fb4.ext c11
    have f40 := f39.ext c16
    have f41 := f40.ext d29
    have f42 := f41.ext c30
    have f43 := f42.ext c34
    have f44 := f43.ext c36
    refine sx_store (vs := [.bool ((decR (x1 * tenI (q - p1)) q).1), s36, .int .i64 ((decR (x1 * tenI (q - p1)) q).2.2.1)]) rfl rfl f44 rfl Try.sizeOf30 (Nat.le_of_ble_eq_true rfl) (one_cons rfl (one_cons os_36.one (one_cons rfl one_nil))) (fun w38 sw38 fw38 cw38 => ?_)
    have zw38 := cw38.size
    have gw38 : Blk w38 b4 [.bool ((decR (x1 * tenI (q - p1)) q).1), s36, .int .i64 ((decR (x1 * tenI (q - p1)) q).2.2.1)] 30 := fw38
    have q46 := Chg.step (l := b4) (h := (b4 + 1)) (Chg.zero (l := b4) (h := (b4 + 1)) (((d29.t c30).t c34).t c36)) cw38 (by omega)
    have s45 : Chg b4 (b4 + 1) w16 w38 := q46
    refine wl_nil ?_
    refine dx_next s45 ?_
    refine dx_take 9 rfl rfl rfl rfl (by kernel_rfl) (by kernel_rfl) (by kernel_rfl) s45 (fun _ hS => px_assign rfl) ?_
    refine dx_done (by kernel_rfl) ?_
    refine q_n (k26 _ _ ?_)
    refine sx_retc ?_
    refine q_r (sx_ret2 Try.results11 ⟨_, rfl, gw38.loadA (vs := [.bool ((decR (x1 * tenI (q - p1)) q).1), s36, .int .i64 ((decR (x1 * tenI (q - p1)) q).2.2.1)]) (look_lit rfl) Try.isAgg30 Try.sizeOf30⟩ rfl ?_)
    have hrl := dAt_len (n := ng x1) (z := dg x1.natAbs) (p := p1) (q := q)
    rw [dAt_up hD hQ (by omega)] at hrl ⊢
    have q47 := Chg.step (l := 0) (h := 0) (Chg.zero (l := 0) (h := 0) (((((((cb2.t cb4).t c11).t c16).t d29).t c30).t c34).t c36)) cw38 (by omega)
    have f48 := os_36.chg cw38 (by omega)
    exact ⟨_, rfl, (Own.mono f48 (by omega) (by omega)), hrl, q47⟩
   ·
    refine sx_skip ?_
    refine q_n (k22 _ _ ?_)
    refine sx_seq fun K49 k49 => ?_
    have f50 := fb4.ext c11
    have f51 := f50.ext c16
    have f52 := f10.ext c11
    have f53 := f52.ext c16
    refine dx_region (fun w' => Chg 0 0 w16 w') (by kernel_rfl) (Chg.zero (Chg.drew _)) ?_
    have d54 := Chg.drew w16
    have s54 : Chg 0 0 w16 (World.drew w16) := Chg.zero (Chg.drew _)
    have y54 : (World.drew w16).heap.size = w16.heap.size := rfl
    generalize World.drew w16 = w54 at *
    have zw54 := d54.size
    refine dx_take 0 rfl rfl rfl rfl (by kernel_rfl) (by kernel_rfl) (by kernel_rfl) s54 (fun _ hS => px_field rfl xfld30x0) ?_
    refine dx_take 1 rfl rfl rfl rfl (by kernel_rfl) (by kernel_rfl) (by kernel_rfl) s54 (fun _ hS => px_field rfl xfld28x1) ?_
    refine dx_take 2 rfl rfl rfl rfl (by kernel_rfl) (by kernel_rfl) (by kernel_rfl) s54 (fun _ hS => px_load rfl ((f25.chg hS (by omega)).load1 rfl Try.isAgg22)) ?_
    refine dx_take 3 rfl rfl rfl rfl (by kernel_rfl) (by kernel_rfl) (by kernel_rfl) s54 (fun _ hS => px_field rfl xfld30x1) ?_
    refine dx_take 4 rfl rfl rfl rfl (by kernel_rfl) (by kernel_rfl) (by kernel_rfl) s54 (fun _ hS => px_load rfl ((f25.chg hS (by omega)).load1 rfl Try.isAgg3)) ?_
    refine dx_take 5 rfl rfl rfl rfl (by kernel_rfl) (by kernel_rfl) (by kernel_rfl) s54 (fun _ hS => px_move rfl) ?_
    refine dx_take 6 rfl rfl rfl rfl (by kernel_rfl) (by kernel_rfl) (by kernel_rfl) s54 (fun _ hS => px_sub rfl rfl (by omega)) ?_
    refine dx_eff 7 rfl (by kernel_rfl) ?_
    refine sx_call rfl rfl Try.call44 (c_natTen (by omega)) (fun v55 w55 p55 => ?_)
    obtain ⟨s55, rfl, os_55, c55⟩ := p55
    have zw55 := c55.size
    have s56 : Chg 0 0 w16 w55 := (d54.t c55)
    refine wl_nil ?_
    refine dx_next s56 ?_
    refine dx_eff 8 rfl (by kernel_rfl) ?_
    have f57 := f53.ext d54
    have f58 := f57.ext c55
    refine sx_call rfl rfl Try.call43 (c_natDiv f58 os_55.sv (by omega) (by omega) (Nat.pow_pos (by decide))) (fun v59 w59 p59 => ?_)
    obtain ⟨s59, t59, rfl, os_59, ot_59, c59⟩ := p59
    have zw59 := c59.size
    have s60 : Chg 0 0 w16 w59 := ((d54.t c55).t c59)
    refine wl_nil ?_
    refine dx_next s60 ?_
    refine dx_take 9 rfl rfl rfl rfl (by kernel_rfl) (by kernel_rfl) (by kernel_rfl) s60 (fun _ hS => px_move rfl) ?_
    refine dx_take 10 rfl rfl rfl rfl (by kernel_rfl) (by kernel_rfl) (by kernel_rfl) s60 (fun _ hS => px_extract (vs := [s59, t59]) rfl rfl) ?_
    refine dx_take 11 rfl rfl rfl rfl (by kernel_rfl) (by kernel_rfl) (by kernel_rfl) s60 (fun _ hS => px_extract (vs := [s59, t59]) rfl rfl) ?_
    refine dx_take 12 rfl rfl rfl rfl (by kernel_rfl) (by kernel_rfl) (by kernel_rfl) s60 (fun _ hS => px_assign rfl) ?_
    refine dx_take 13 rfl rfl rfl rfl (by kernel_rfl) (by kernel_rfl) (by kernel_rfl) s60 (fun _ hS => px_assign rfl) ?_
    refine dx_done (by kernel_rfl) ?_
    refine q_n (k49 _ _ ?_)
    refine sx_sub (Sub.cons (t := 1) rfl (.cons (t := 2) rfl (.cons (t := 4) rfl (.cons (t := 5) rfl (.cons (t := 6) rfl (.cons (t := 7) rfl (.nil))))))) ?_
    refine sx_seq fun K61 k61 => ?_
    refine sx_seq fun K62 k62 => sx_region ?_
    refine sm rfl rfl rfl rfl ?_
    refine sx_pure rfl rfl rfl (px_len rfl Try.underlying22 ot_59.sv) ?_
    refine sx_pure rfl rfl rfl (px_gt rfl rfl) ?_
    refine wl_nil (q_n (k62 _ _ ?_))
    refine sx_condP rfl (fun h94 => ?_) (fun h94 => ?_)
    ·
     have hr9 : ¬ x1.natAbs % 10 ^ (p1 - q).toNat = 0 := fun e => by rw [e, dg_zero] at h94; simp at h94
     refine sx_seq fun K63 k63 => sx_region ?_
     refine sx_pure rfl rfl rfl (px_build rfl (xbld30x  _)) ?_
     have f65 := f51.ext d54
     have f66 := f65.ext c55
     have f67 := f66.ext c59
     refine sx_store (vs := [.bool false, (.slice none 0 0), .int .i64 0]) rfl rfl f67 rfl Try.sizeOf30 (Nat.le_of_ble_eq_true rfl) (one_cons rfl (one_cons rfl (one_cons rfl one_nil))) (fun w64 sw64 fw64 cw64 => ?_)
     have zw64 := cw64.size
     have gw64 : Blk w64 b4 [.bool false, (.slice none 0 0), .int .i64 0] 30 := fw64
     refine sa rfl rfl rfl rfl ?_
     refine wl_nil (q_n (k63 _ _ ?_))
     refine sx_retc ?_
     refine q_r (sx_ret2 Try.results11 ⟨_, rfl, gw64.loadA (vs := [.bool false, (.slice none 0 0), .int .i64 0]) (look_lit rfl) Try.isAgg30 Try.sizeOf30⟩ rfl ?_)
     rw [dAt_rest hD hQ (by omega) hr9]
     have q68 := Chg.step (l := 0) (h := 0) (Chg.zero (l := 0) (h := 0) ((((((cb2.t cb4).t c11).t c16).t d54).t c55).t c59)) cw64 (by omega)
     exact ⟨_, rfl, Own.nil _ _ _ _ _, by simp [noD], q68⟩
    ·
     have hr9 : x1.natAbs % 10 ^ (p1 - q).toNat = 0 := len_zero.1 (by omega)
     refine sx_skip ?_
     refine q_n (k61 _ _ ?_)
     refine sx_seq fun K69 k69 => sx_region ?_
     refine sx_pure rfl rfl rfl (px_field rfl xfld30x0) ?_
     refine sx_pure rfl rfl rfl (px_field rfl xfld28x0) ?_
     have f70 := f25.ext d54
     have f71 := f70.ext c55
     have f72 := f71.ext c59
     refine sx_pure rfl rfl rfl (px_load rfl (f72.load1 rfl Try.isAgg4)) ?_
     refine sm rfl rfl rfl rfl ?_
     refine sx_call rfl rfl Try.call45 (c_signed os_59.sv (by omega)) (fun v73 w73 p73 => ?_)
     obtain ⟨rfl, c73⟩ := p73
     have zw73 := c73.size
     refine sx_let (t := 49) rfl (show Value.agg #[.bool (nz (ng x1) (dg (x1.natAbs / (10 ^ ((p1 - q)).toNat)))), s59] = Value.agg #[.bool (ng (sgI (ng x1) (x1.natAbs / (10 ^ ((p1 - q)).toNat)))), s59] from by rw [ng_sgI]) ?_
     have f74 := os_59.ext c73
     have f75 := f74
     rw [show dg (x1.natAbs / (10 ^ ((p1 - q)).toNat)) = dg (sgI (ng x1) (x1.natAbs / (10 ^ ((p1 - q)).toNat))).natAbs by rw [sgI_abs]] at f75
     refine sm rfl rfl rfl rfl ?_
     refine sx_call rfl rfl Try.call41 (c_decOf f75 (by first | omega | (rw [sgI_abs]; omega)) (by omega)) (fun v76 w76 p76 => ?_)
     obtain ⟨s76, rfl, os_76, c76⟩ := p76
     have zw76 := c76.size
     refine sx_pure rfl rfl rfl (px_extract (vs := [.agg #[.bool ((decR (sgI (ng x1) (x1.natAbs / (10 ^ ((p1 - q)).toNat))) q).1), s76, .int .i64 ((decR (sgI (ng x1) (x1.natAbs / (10 ^ ((p1 - q)).toNat))) q).2.2.1)], .bool ((decR (sgI (ng x1) (x1.natAbs / (10 ^ ((p1 - q)).toNat))) q).2.2.2)]) rfl rfl) ?_
     refine sx_pure rfl rfl rfl (px_extract (vs := [.agg #[.bool ((decR (sgI (ng x1) (x1.natAbs / (10 ^ ((p1 - q)).toNat))) q).1), s76, .int .i64 ((decR (sgI (ng x1) (x1.natAbs / (10 ^ ((p1 - q)).toNat))) q).2.2.1)], .bool ((decR (sgI (ng x1) (x1.natAbs / (10 ^ ((p1 - q)).toNat))) q).2.2.2)]) rfl rfl) ?_
     have f78 := f51.ext d54
     have f79 := f78.ext c55
     have f80 := f79.ext c59
     have f81 := f80.ext c73
     have f82 := f81.ext c76
     refine sx_store (vs := [.bool ((decR (sgI (ng x1) (x1.natAbs / (10 ^ ((p1 - q)).toNat))) q).1), s76, .int .i64 ((decR (sgI (ng x1) (x1.natAbs / (10 ^ ((p1 - q)).toNat))) q).2.2.1)]) rfl rfl f82 rfl Try.sizeOf30 (Nat.le_of_ble_eq_true rfl) (one_cons rfl (one_cons os_76.one (one_cons rfl one_nil))) (fun w77 sw77 fw77 cw77 => ?_)
     have zw77 := cw77.size
     have gw77 : Blk w77 b4 [.bool ((decR (sgI (ng x1) (x1.natAbs / (10 ^ ((p1 - q)).toNat))) q).1), s76, .int .i64 ((decR (sgI (ng x1) (x1.natAbs / (10 ^ ((p1 - q)).toNat))) q).2.2.1)] 30 := fw77
     refine sa rfl rfl rfl rfl ?_
     refine wl_nil (q_n (k69 _ _ ?_))
     refine sx_sub (Sub.cons (t := 4) rfl (.cons (t := 5) rfl (.nil))) ?_
     refine sx_retc ?_
     refine sx_ret2 Try.results11 ⟨_, rfl, gw77.loadA (vs := [.bool ((decR (sgI (ng x1) (x1.natAbs / (10 ^ ((p1 - q)).toNat))) q).1), s76, .int .i64 ((decR (sgI (ng x1) (x1.natAbs / (10 ^ ((p1 - q)).toNat))) q).2.2.1)]) (look_lit rfl) Try.isAgg30 Try.sizeOf30⟩ rfl ?_
     have hrl := dAt_len (n := ng x1) (z := dg x1.natAbs) (p := p1) (q := q)
     rw [dAt_dn hD hQ (by omega) hr9] at hrl ⊢
     have q83 := Chg.step (l := 0) (h := 0) (Chg.zero (l := 0) (h := 0) ((((((((cb2.t cb4).t c11).t c16).t d54).t c55).t c59).t c73).t c76)) cw77 (by omega)
     have f84 := os_76.chg cw77 (by omega)
     exact ⟨_, rfl, (Own.mono f84 (by omega) (by omega)), hrl, q83⟩

theorem c_eqIntS {w : World} {va : Value} {lva uva : Nat} {zs : List Int} {vb : Value} {lvb uvb : Nat} {ys : List Int} (hva : Sl w lva uva va (zs)) (hvb : Sl w lvb uvb vb (ys)) (h63 : zs.length ≤ 4611686018427387904 ∧ ys.length ≤ 4611686018427387904) :
  Ret Try.prog 60 [va, vb] w fun v w' => v = .bool (decide (zs = ys)) ∧ Chg 0 0 w w' := by
 have hva0 := hva.fit
 have hvb0 := hvb.fit
 have hneq : zs.length ≠ ys.length → zs ≠ ys := fun h e => h (by rw [e])
 refine sx_enter Try.func60 rfl Try.ntmps60 (Nat.le_of_ble_eq_true rfl) ?_
 refine sx_seq fun K1 k1 => sx_region ?_
 refine sa rfl rfl rfl rfl ?_
 refine wl_nil (q_n (k1 _ _ ?_))
 refine sx_seq fun K2 k2 => ?_
 refine sx_seq fun K3 k3 => sx_region ?_
 refine sm rfl rfl rfl rfl ?_
 refine sx_pure rfl rfl rfl (px_len rfl Try.underlying22 hva0) ?_
 refine sm rfl rfl rfl rfl ?_
 refine sx_pure rfl rfl rfl (px_len rfl Try.underlying22 hvb0) ?_
 refine sx_pure rfl rfl rfl (px_ne rfl rfl) ?_
 refine wl_nil (q_n (k3 _ _ ?_))
 refine sx_condP rfl (fun h210 => ?_) (fun h210 => ?_)
 ·
  refine sx_seq fun K4 k4 => sx_region ?_
  refine sa rfl rfl rfl rfl ?_
  refine wl_nil (q_n (k4 _ _ ?_))
  refine sx_retc ?_
  refine q_r (sx_ret1 Try.results60 rfl ?_)
  exact ⟨bFalse (hneq (by omega)), (Chg.refl 0 0 _)⟩
 ·
  refine sx_skip ?_
  refine q_n (k2 _ _ ?_)
  refine sx_seq fun K5 k5 => ?_
  refine sx_seq fun K6 k6 => sx_region ?_
  refine sa rfl rfl rfl rfl ?_
  refine wl_nil (q_n (k6 _ _ ?_))
  refine sx_block ?_
  refine sx_loop (fun mm aa w' => ∃ (k : Nat), Agr 26 [(0, va), (1, vb), (5, .int .i64 ↑k)] aa ∧ Chg 0 0 w w' ∧ (mm = zs.length - k) ∧ (k ≤ zs.length) ∧ (zs.take k = ys.take k)) (_) (fun a ha => ⟨0, ha.sub (Sub.cons (t := 0) rfl (.cons (t := 1) rfl (.cons (t := 5) (look_int (t := 5) rfl (by first | omega | simp)) (.nil)))), Chg.refl _ _ _, rfl, by omega, by simp⟩) ?_
  rintro mm aa wl7 ⟨k, hAwl7, cwl7, hm, hk, he⟩
  refine (show cw Try.prog 26 _ _ _ wl7 from ?_) aa hAwl7
  clear hAwl7
  have zwl7 := cwl7.size
  refine sx_seq fun K8 k8 => ?_
  refine sx_seq fun K9 k9 => sx_region ?_
  refine sm rfl rfl rfl rfl ?_
  refine sm rfl rfl rfl rfl ?_
  have f10 := hva0.ext cwl7
  refine sx_pure rfl rfl rfl (px_len rfl Try.underlying22 f10) ?_
  refine sx_pure rfl rfl rfl (px_lt rfl rfl) ?_
  refine wl_nil (q_n (k9 _ _ ?_))
  refine sx_condP rfl (fun h213 => ?_) (fun h213 => ?_)
  ·
   refine sx_skip ?_
   refine q_n (k8 _ _ ?_)
   refine sx_seq fun K11 k11 => ?_
   refine sx_block ?_
   refine sx_seq fun K12 k12 => ?_
   have f13 := hvb0.ext cwl7
   refine dx_region (fun w' => Chg 0 0 wl7 w') (by kernel_rfl) (Chg.zero (Chg.drew _)) ?_
   have d14 := Chg.drew wl7
   have s14 : Chg 0 0 wl7 (World.drew wl7) := Chg.zero (Chg.drew _)
   have y14 : (World.drew wl7).heap.size = wl7.heap.size := rfl
   generalize World.drew wl7 = w14 at *
   have zw14 := d14.size
   refine dx_take 0 rfl rfl rfl rfl (by kernel_rfl) (by kernel_rfl) (by kernel_rfl) s14 (fun _ hS => px_move rfl) ?_
   refine dx_take 1 rfl rfl rfl rfl (by kernel_rfl) (by kernel_rfl) (by kernel_rfl) s14 (fun _ hS => px_move rfl) ?_
   refine dx_take 2 rfl rfl rfl rfl (by kernel_rfl) (by kernel_rfl) (by kernel_rfl) s14 (fun _ hS => px_index1 (j := k) rfl rfl (by omega) Try.underlying22 Try.sizeOf3 ((f10).chg hS (by omega)) (by omega)) ?_
   refine dx_take 3 rfl rfl rfl rfl (by kernel_rfl) (by kernel_rfl) (by kernel_rfl) s14 (fun _ hS => px_load rfl (((f10).chg hS (by omega)).load1 (at_int (by omega)) Try.isAgg3)) ?_
   refine dx_take 4 rfl rfl rfl rfl (by kernel_rfl) (by kernel_rfl) (by kernel_rfl) s14 (fun _ hS => px_move rfl) ?_
   refine dx_take 5 rfl rfl rfl rfl (by kernel_rfl) (by kernel_rfl) (by kernel_rfl) s14 (fun _ hS => px_move rfl) ?_
   refine dx_take 6 rfl rfl rfl rfl (by kernel_rfl) (by kernel_rfl) (by kernel_rfl) s14 (fun _ hS => px_index1 (j := k) rfl rfl (by omega) Try.underlying22 Try.sizeOf3 ((f13).chg hS (by omega)) (by omega)) ?_
   refine dx_take 7 rfl rfl rfl rfl (by kernel_rfl) (by kernel_rfl) (by kernel_rfl) s14 (fun _ hS => px_load rfl (((f13).chg hS (by omega)).load1 (at_int (by omega)) Try.isAgg3)) ?_
   refine dx_take 8 rfl rfl rfl rfl (by kernel_rfl) (by kernel_rfl) (by kernel_rfl) s14 (fun _ hS => px_ne rfl rfl) ?_
   refine dx_done (by kernel_rfl) ?_
   refine q_n (k12 _ _ ?_)
   refine sx_sub (Sub.cons (t := 0) rfl (.cons (t := 1) rfl (.cons (t := 5) rfl (.cons (t := 25) rfl (.nil))))) ?_
   refine sx_condP rfl (fun h214 => ?_) (fun h214 => ?_)
   ·
    refine sx_seq fun K15 k15 => sx_region ?_
    refine sa rfl rfl rfl rfl ?_
    refine wl_nil (q_n (k15 _ _ ?_))
    refine sx_retc ?_
    refine q_br (q_r (q_r (q_br (q_r (sx_ret1 Try.results60 rfl ?_)))))
    exact ⟨bFalse (ne_of_getD h214), (cwl7.t d14)⟩
   ·
    refine sx_skip ?_
    refine q_bn (q_n (k11 _ _ ?_))
    refine sx_region ?_
    refine sm rfl rfl rfl rfl ?_
    refine sx_pure rfl rfl rfl (px_add rfl rfl (by omega)) ?_
    refine sa rfl rfl rfl rfl ?_
    refine wl_nil ?_
    exact fun a ha => ⟨_, by omega, (k + 1), ha.sub (Sub.cons (t := 0) rfl (.cons (t := 1) rfl (.cons (t := 5) (look_int (t := 5) rfl (by first | omega | simp)) (.nil)))), (cwl7.t d14), rfl, by omega, take_succ_eq he (by omega) (by omega) (Decidable.not_not.1 h214)⟩
  ·
   refine sx_exit ?_
   refine q_e (q_e (q_bx (q_n (k5 _ _ ?_))))
   refine sx_seq fun K16 k16 => sx_region ?_
   refine sa rfl rfl rfl rfl ?_
   refine wl_nil (q_n (k16 _ _ ?_))
   refine sx_retc ?_
   refine sx_ret1 Try.results60 rfl ?_
   have e1 : k = zs.length := by omega
   rw [e1, List.take_length, List.take_of_length_le (by omega)] at he
   exact ⟨bTrue he, cwl7⟩

theorem c_eqSigned {w : World} {n1 : Bool} {v1 : Value} {lv1 uv1 : Nat} {z1 : List Int} {n2 : Bool} {v2 : Value} {lv2 uv2 : Nat} {z2 : List Int} (hv1 : Sl w lv1 uv1 v1 (z1)) (hv2 : Sl w lv2 uv2 v2 (z2)) (h63 : z1.length ≤ 4611686018427387904 ∧ z2.length ≤ 4611686018427387904) :
  Ret Try.prog 25 [.agg #[.bool n1, v1], .agg #[.bool n2, v2]] w fun v w' => v = .bool (decide (n1 = n2 ∧ z1 = z2)) ∧ Chg 0 0 w w' := by
 have hv10 := hv1.fit
 have hv20 := hv2.fit
 refine sx_enter Try.func25 rfl Try.ntmps25 (Nat.le_of_ble_eq_true rfl) ?_
 refine sx_seq fun K1 k1 => sx_region ?_
 refine sx_box [.bool n1, v1] rfl rfl rfl (fun b2 w3 eb2 sb2 fb2 cb2 => ?_)
 have zw3 := cb2.size
 refine sx_box [.bool n2, v2] rfl rfl rfl (fun b4 w5 eb4 sb4 fb4 cb4 => ?_)
 have zw5 := cb4.size
 refine sa rfl rfl rfl rfl ?_
 refine wl_nil (q_n (k1 _ _ ?_))
 refine sx_seq fun K6 k6 => ?_
 refine sx_seq fun K7 k7 => sx_region ?_
 refine sx_pure rfl rfl rfl (px_field rfl xfld28x0) ?_
 have f8 := fb2.ext cb4
 refine sx_pure rfl rfl rfl (px_load rfl (f8.load1 rfl Try.isAgg4)) ?_
 refine sx_pure rfl rfl rfl (px_field rfl xfld28x0) ?_
 refine sx_pure rfl rfl rfl (px_load rfl (fb4.load1 rfl Try.isAgg4)) ?_
 refine sx_pure rfl rfl rfl (px_neB Try.underlying4 rfl rfl) ?_
 refine wl_nil (q_n (k7 _ _ ?_))
 refine sx_condB rfl (fun h263 => ?_) (fun h263 => ?_)
 ·
  refine sx_seq fun K9 k9 => sx_region ?_
  refine sa rfl rfl rfl rfl ?_
  refine wl_nil (q_n (k9 _ _ ?_))
  refine sx_retc ?_
  refine q_r (sx_ret1 Try.results25 rfl ?_)
  exact ⟨(by first | exact bTrue (by grind) | exact bFalse (by grind) | exact bIff (by grind)), (cb2.t cb4)⟩
 ·
  refine sx_skip ?_
  refine q_n (k6 _ _ ?_)
  refine sx_seq fun K10 k10 => ?_
  refine sx_seq fun K11 k11 => sx_region ?_
  refine sx_pure rfl rfl rfl (px_field rfl xfld28x1) ?_
  refine sx_pure rfl rfl rfl (px_load rfl (f8.load1 rfl Try.isAgg22)) ?_
  refine sx_pure rfl rfl rfl (px_field rfl xfld28x1) ?_
  refine sx_pure rfl rfl rfl (px_load rfl (fb4.load1 rfl Try.isAgg22)) ?_
  have f12 := hv10.ext cb2
  have f13 := f12.ext cb4
  have f14 := hv20.ext cb2
  have f15 := f14.ext cb4
  refine sx_call rfl rfl Try.call60 (c_eqIntS f13 f15 (by omega)) (fun v16 w16 p16 => ?_)
  obtain ⟨rfl, c16⟩ := p16
  have zw16 := c16.size
  refine sx_pure rfl rfl rfl (px_notP rfl) ?_
  refine wl_nil (q_n (k11 _ _ ?_))
  refine sx_sub (Sub.cons (t := 4) rfl (.cons (t := 15) rfl (.nil))) ?_
  refine sx_condP rfl (fun h266 => ?_) (fun h266 => ?_)
  ·
   refine sx_seq fun K17 k17 => sx_region ?_
   refine sa rfl rfl rfl rfl ?_
   refine wl_nil (q_n (k17 _ _ ?_))
   refine sx_retc ?_
   refine q_r (sx_ret1 Try.results25 rfl ?_)
   exact ⟨(by first | exact bTrue (by grind) | exact bFalse (by grind) | exact bIff (by grind)), ((cb2.t cb4).t c16)⟩
  ·
   refine sx_skip ?_
   refine q_n (k10 _ _ ?_)
   refine sx_seq fun K18 k18 => sx_region ?_
   refine sa rfl rfl rfl rfl ?_
   refine wl_nil (q_n (k18 _ _ ?_))
   refine sx_retc ?_
   refine sx_ret1 Try.results25 rfl ?_
   exact ⟨(by first | exact bTrue (by grind) | exact bFalse (by grind) | exact bIff (by grind)), ((cb2.t cb4).t c16)⟩

theorem c_eqDec {w : World} {n1 : Bool} {v1 : Value} {lv1 uv1 : Nat} {z1 : List Int} {p1 : Int} {n2 : Bool} {v2 : Value} {lv2 uv2 : Nat} {z2 : List Int} {p2 : Int} (hv1 : Sl w lv1 uv1 v1 (z1)) (hv2 : Sl w lv2 uv2 v2 (z2)) (h63 : z1.length ≤ 4611686018427387904 ∧ z2.length ≤ 4611686018427387904) :
  Ret Try.prog 12 [.agg #[.bool n1, v1, .int .i64 p1], .agg #[.bool n2, v2, .int .i64 p2]] w fun v w' => v = .bool (decide (n1 = n2 ∧ z1 = z2 ∧ p1 = p2)) ∧ Chg 0 0 w w' := by
 have hv10 := hv1.fit
 have hv20 := hv2.fit
 refine sx_enter Try.func12 rfl Try.ntmps12 (Nat.le_of_ble_eq_true rfl) ?_
 refine sx_seq fun K1 k1 => sx_region ?_
 refine sx_box [.bool n1, v1, .int .i64 p1] rfl rfl rfl (fun b2 w3 eb2 sb2 fb2 cb2 => ?_)
 have zw3 := cb2.size
 refine sx_box [.bool n2, v2, .int .i64 p2] rfl rfl rfl (fun b4 w5 eb4 sb4 fb4 cb4 => ?_)
 have zw5 := cb4.size
 refine sa rfl rfl rfl rfl ?_
 refine wl_nil (q_n (k1 _ _ ?_))
 refine sx_seq fun K6 k6 => ?_
 refine sx_seq fun K7 k7 => sx_region ?_
 refine sx_pure rfl rfl rfl (px_field rfl xfld30x0) ?_
 have f8 := fb2.ext cb4
 refine sx_pure rfl rfl rfl (px_load rfl (f8.loadA (vs := [.bool n1, v1]) (look_lit rfl) Try.isAgg28 Try.sizeOf28)) ?_
 refine sx_pure rfl rfl rfl (px_field rfl xfld30x0) ?_
 refine sx_pure rfl rfl rfl (px_load rfl (fb4.loadA (vs := [.bool n2, v2]) (look_lit rfl) Try.isAgg28 Try.sizeOf28)) ?_
 have f9 := hv10.ext cb2
 have f10 := f9.ext cb4
 have f11 := hv20.ext cb2
 have f12 := f11.ext cb4
 refine sx_call rfl rfl Try.call25 (c_eqSigned f10 f12 (by omega)) (fun v13 w13 p13 => ?_)
 obtain ⟨rfl, c13⟩ := p13
 have zw13 := c13.size
 refine sx_pure rfl rfl rfl (px_notP rfl) ?_
 refine wl_nil (q_n (k7 _ _ ?_))
 refine sx_condP rfl (fun h405 => ?_) (fun h405 => ?_)
 ·
  refine sx_seq fun K14 k14 => sx_region ?_
  refine sa rfl rfl rfl rfl ?_
  refine wl_nil (q_n (k14 _ _ ?_))
  refine sx_retc ?_
  refine q_r (sx_ret1 Try.results12 rfl ?_)
  exact ⟨(by first | exact bTrue (by grind) | exact bFalse (by grind) | exact bIff (by grind)), ((cb2.t cb4).t c13)⟩
 ·
  refine sx_skip ?_
  refine q_n (k6 _ _ ?_)
  refine sx_seq fun K15 k15 => ?_
  refine sx_seq fun K16 k16 => sx_region ?_
  refine sx_pure rfl rfl rfl (px_field rfl xfld30x1) ?_
  have f17 := f8.ext c13
  refine sx_pure rfl rfl rfl (px_load rfl (f17.load1 rfl Try.isAgg3)) ?_
  refine sx_pure rfl rfl rfl (px_field rfl xfld30x1) ?_
  have f18 := fb4.ext c13
  refine sx_pure rfl rfl rfl (px_load rfl (f18.load1 rfl Try.isAgg3)) ?_
  refine sx_pure rfl rfl rfl (px_ne rfl rfl) ?_
  refine wl_nil (q_n (k16 _ _ ?_))
  refine sx_sub (Sub.cons (t := 4) rfl (.cons (t := 15) rfl (.nil))) ?_
  refine sx_condP rfl (fun h408 => ?_) (fun h408 => ?_)
  ·
   refine sx_seq fun K19 k19 => sx_region ?_
   refine sa rfl rfl rfl rfl ?_
   refine wl_nil (q_n (k19 _ _ ?_))
   refine sx_retc ?_
   refine q_r (sx_ret1 Try.results12 rfl ?_)
   exact ⟨(by first | exact bTrue (by grind) | exact bFalse (by grind) | exact bIff (by grind)), ((cb2.t cb4).t c13)⟩
  ·
   refine sx_skip ?_
   refine q_n (k15 _ _ ?_)
   refine sx_seq fun K20 k20 => sx_region ?_
   refine sa rfl rfl rfl rfl ?_
   refine wl_nil (q_n (k20 _ _ ?_))
   refine sx_retc ?_
   refine sx_ret1 Try.results12 rfl ?_
   exact ⟨(by first | exact bTrue (by grind) | exact bFalse (by grind) | exact bIff (by grind)), ((cb2.t cb4).t c13)⟩

theorem c_markIntS {w : World} {va : Value} {lva uva : Nat} {zs : List Int} {n : Int} (hva : OwnI w lva uva va intT (zs)) (h63 : zs.length ≤ 1048576) (hn : 0 ≤ n ∧ n ≤ 4611686018427387904) :
  Ret Try.prog 61 [va, .int .i64 n] w fun v w' => v = .int .i64 (n + ↑(zs).length) ∧ OwnI w' (lva) (uva) va intT (mk n (zs).length) ∧ Chg lva uva w w' := by
 refine sx_enter Try.func61 rfl Try.ntmps61 (Nat.le_of_ble_eq_true rfl) ?_
 refine sx_seq fun K1 k1 => sx_region ?_
 refine sa rfl rfl rfl rfl ?_
 refine wl_nil (q_n (k1 _ _ ?_))
 refine sx_seq fun K2 k2 => ?_
 refine sx_seq fun K3 k3 => sx_region ?_
 refine sa rfl rfl rfl rfl ?_
 refine wl_nil (q_n (k3 _ _ ?_))
 refine sx_block ?_
 refine sx_loop (fun mm aa w' => ∃ (k : Nat) (os : List Int), Agr 19 [(0, va), (1, .int .i64 (n + ↑k)), (5, .int .i64 ↑k)] aa ∧ Chg lva uva w w' ∧ Own w' lva uva va intT os.length 1 (os.map (Value.int .i64)) ∧ (mm = zs.length - k) ∧ (k ≤ zs.length) ∧ (os.length = zs.length) ∧ (os.take k = mk n k)) (_) (fun a ha => ⟨0, zs, ha.sub (Sub.cons (t := 0) rfl (.cons (t := 1) (look_int (t := 1) rfl (by first | omega | simp)) (.cons (t := 5) (look_int (t := 5) rfl (by first | omega | simp)) (.nil)))), Chg.refl _ _ _, hva, rfl, by omega, rfl, rfl⟩) ?_
 rintro mm aa wl4 ⟨k, os, hAwl4, cwl4, hs_va, hm, hk, ho, he⟩
 refine (show cw Try.prog 19 _ _ _ wl4 from ?_) aa hAwl4
 clear hAwl4
 have zwl4 := cwl4.size
 refine sx_seq fun K5 k5 => ?_
 refine sx_seq fun K6 k6 => sx_region ?_
 refine sm rfl rfl rfl rfl ?_
 refine sm rfl rfl rfl rfl ?_
 refine sx_pure rfl rfl rfl (px_len rfl Try.underlying22 hs_va.sv) ?_
 refine sx_pure rfl rfl rfl (px_lt rfl rfl) ?_
 refine wl_nil (q_n (k6 _ _ ?_))
 refine sx_condP rfl (fun h222 => ?_) (fun h222 => ?_)
 ·
  refine sx_skip ?_
  refine q_n (k5 _ _ ?_)
  refine sx_seq fun K7 k7 => ?_
  refine sx_block ?_
  refine sx_seq fun K8 k8 => sx_region ?_
  refine sm rfl rfl rfl rfl ?_
  refine sm rfl rfl rfl rfl ?_
  refine sm rfl rfl rfl rfl ?_
  refine sx_pure rfl rfl rfl (px_index1 (j := k) rfl rfl (by omega) Try.underlying22 Try.sizeOf3 hs_va.sv (by omega)) ?_
  refine sx_storeO rfl rfl hs_va (by first | omega | (simp only [List.length_map]; omega)) Try.sizeOf3 rfl (fun w9 sw9 fw9 cw9 => ?_)
  have zw9 := cw9.size
  have nw9 := fw9.set
  refine wl_nil (q_n (k8 _ _ ?_))
  refine sx_region ?_
  refine sm rfl rfl rfl rfl ?_
  refine sx_pure rfl rfl rfl (px_add rfl rfl (by omega)) ?_
  refine sa rfl rfl rfl rfl ?_
  refine wl_nil ?_
  refine q_bn (q_n (k7 _ _ ?_))
  refine sx_region ?_
  refine sm rfl rfl rfl rfl ?_
  refine sx_pure rfl rfl rfl (px_add rfl rfl (by omega)) ?_
  refine sa rfl rfl rfl rfl ?_
  refine wl_nil ?_
  have q10 := Chg.step (l := lva) (h := uva) cwl4 cw9 (by omega)
  exact fun a ha => ⟨_, by omega, (k + 1), (os.set k (n + ↑k)), ha.sub (Sub.cons (t := 0) rfl (.cons (t := 1) (look_int (t := 1) rfl (by first | omega | simp)) (.cons (t := 5) (look_int (t := 5) rfl (by first | omega | simp)) (.nil)))), q10, (nw9.mono (by omega) (by omega)), rfl, by omega, by simp [ho], mk_set he (by omega)⟩
 ·
  refine sx_exit ?_
  refine q_e (q_e (q_bx (q_n (k2 _ _ ?_))))
  refine sx_seq fun K11 k11 => sx_region ?_
  refine sm rfl rfl rfl rfl ?_
  refine sa rfl rfl rfl rfl ?_
  refine wl_nil (q_n (k11 _ _ ?_))
  refine sx_retc ?_
  refine sx_ret1 Try.results61 rfl ?_
  have ek : k = zs.length := by omega
  subst ek
  rw [← ho, List.take_length, ho] at he
  subst he
  exact ⟨rfl, hs_va, cwl4⟩

theorem c_markSigned {w : World} {n1 : Bool} {v1 : Value} {lv1 uv1 : Nat} {z1 : List Int} {n : Int} (hv1 : OwnI w lv1 uv1 v1 intT (z1)) (h63 : z1.length ≤ 1048576) (hn : 0 ≤ n ∧ n ≤ 4611686018427387904) :
  Ret Try.prog 26 [.agg #[.bool n1, v1], .int .i64 n] w fun v w' => v = .int .i64 (n + ↑(z1).length) ∧ OwnI w' (lv1) (uv1) v1 intT (mk n (z1).length) ∧ Chg lv1 uv1 w w' := by
 refine sx_enter Try.func26 rfl Try.ntmps26 (Nat.le_of_ble_eq_true rfl) ?_
 refine sx_seq fun K1 k1 => sx_region ?_
 refine sx_box [.bool n1, v1] rfl rfl rfl (fun b2 w3 eb2 sb2 fb2 cb2 => ?_)
 have zw3 := cb2.size
 refine sa rfl rfl rfl rfl ?_
 refine wl_nil (q_n (k1 _ _ ?_))
 refine sx_seq fun K4 k4 => sx_region ?_
 refine sx_pure rfl rfl rfl (px_field rfl xfld28x1) ?_
 refine sx_pure rfl rfl rfl (px_load rfl (fb2.load1 rfl Try.isAgg22)) ?_
 refine sm rfl rfl rfl rfl ?_
 have f5 := hv1.ext cb2
 refine sx_call rfl rfl Try.call61 (c_markIntS f5 (by omega) (by omega)) (fun v6 w6 p6 => ?_)
 obtain ⟨rfl, ova_6, c6⟩ := p6
 have zw6 := c6.size
 refine sa rfl rfl rfl rfl ?_
 refine wl_nil (q_n (k4 _ _ ?_))
 refine sx_seq fun K7 k7 => sx_region ?_
 refine sm rfl rfl rfl rfl ?_
 refine sa rfl rfl rfl rfl ?_
 refine wl_nil (q_n (k7 _ _ ?_))
 refine sx_retc ?_
 refine sx_ret1 Try.results26 rfl ?_
 have q8 := Chg.step (l := lv1) (h := uv1) (Chg.zero (l := lv1) (h := uv1) cb2) c6 (by omega)
 exact ⟨rfl, ova_6, q8⟩

theorem c_markDec {w : World} {n1 : Bool} {v1 : Value} {lv1 uv1 : Nat} {z1 : List Int} {p1 : Int} {n : Int} (hv1 : OwnI w lv1 uv1 v1 intT (z1)) (h63 : z1.length ≤ 1048576) (hn : 0 ≤ n ∧ n ≤ 4611686018427387904) :
  Ret Try.prog 13 [.agg #[.bool n1, v1, .int .i64 p1], .int .i64 n] w fun v w' => v = .int .i64 (n + ↑(z1).length) ∧ OwnI w' (lv1) (uv1) v1 intT (mk n (z1).length) ∧ Chg lv1 uv1 w w' := by
 refine sx_enter Try.func13 rfl Try.ntmps13 (Nat.le_of_ble_eq_true rfl) ?_
 refine sx_seq fun K1 k1 => sx_region ?_
 refine sx_box [.bool n1, v1, .int .i64 p1] rfl rfl rfl (fun b2 w3 eb2 sb2 fb2 cb2 => ?_)
 have zw3 := cb2.size
 refine sa rfl rfl rfl rfl ?_
 refine wl_nil (q_n (k1 _ _ ?_))
 refine sx_seq fun K4 k4 => sx_region ?_
 refine sx_pure rfl rfl rfl (px_field rfl xfld30x0) ?_
 refine sx_pure rfl rfl rfl (px_load rfl (fb2.loadA (vs := [.bool n1, v1]) (look_lit rfl) Try.isAgg28 Try.sizeOf28)) ?_
 refine sm rfl rfl rfl rfl ?_
 have f5 := hv1.ext cb2
 refine sx_call rfl rfl Try.call26 (c_markSigned f5 (by omega) (by omega)) (fun v6 w6 p6 => ?_)
 obtain ⟨rfl, ov1_6, c6⟩ := p6
 have zw6 := c6.size
 refine sa rfl rfl rfl rfl ?_
 refine wl_nil (q_n (k4 _ _ ?_))
 refine sx_seq fun K7 k7 => sx_region ?_
 refine sm rfl rfl rfl rfl ?_
 refine sa rfl rfl rfl rfl ?_
 refine wl_nil (q_n (k7 _ _ ?_))
 refine sx_retc ?_
 refine sx_ret1 Try.results13 rfl ?_
 have q8 := Chg.step (l := lv1) (h := uv1) (Chg.zero (l := lv1) (h := uv1) cb2) c6 (by omega)
 exact ⟨rfl, ov1_6, q8⟩

theorem c_heldIntS {w : World} {va : Value} {lva uva : Nat} {zs : List Int} {n : Int} (hva : Sl w lva uva va (zs)) (h63 : zs.length ≤ 1048576) (hn : 0 ≤ n ∧ n ≤ 4611686018427387904) (hz : zs = mk n zs.length) :
  Ret Try.prog 68 [va, .int .i64 n] w fun v w' => v = .int .i64 (n + ↑(zs).length) ∧ Chg 0 0 w w' := by
 have hva0 := hva.fit
 refine sx_enter Try.func68 rfl Try.ntmps68 (Nat.le_of_ble_eq_true rfl) ?_
 refine sx_seq fun K1 k1 => sx_region ?_
 refine sa rfl rfl rfl rfl ?_
 refine wl_nil (q_n (k1 _ _ ?_))
 refine sx_seq fun K2 k2 => ?_
 refine sx_seq fun K3 k3 => sx_region ?_
 refine sa rfl rfl rfl rfl ?_
 refine wl_nil (q_n (k3 _ _ ?_))
 refine sx_block ?_
 refine sx_loop (fun mm aa w' => ∃ (k : Nat), Agr 21 [(0, va), (1, .int .i64 (n + ↑k)), (5, .int .i64 ↑k)] aa ∧ Chg 0 0 w w' ∧ (mm = zs.length - k) ∧ (k ≤ zs.length)) (_) (fun a ha => ⟨0, ha.sub (Sub.cons (t := 0) rfl (.cons (t := 1) (look_int (t := 1) rfl (by first | omega | simp)) (.cons (t := 5) (look_int (t := 5) rfl (by first | omega | simp)) (.nil)))), Chg.refl _ _ _, rfl, by omega⟩) ?_
 rintro mm aa wl4 ⟨k, hAwl4, cwl4, hm, hk⟩
 refine (show cw Try.prog 21 _ _ _ wl4 from ?_) aa hAwl4
 clear hAwl4
 have zwl4 := cwl4.size
 refine sx_seq fun K5 k5 => ?_
 refine sx_seq fun K6 k6 => sx_region ?_
 refine sm rfl rfl rfl rfl ?_
 refine sm rfl rfl rfl rfl ?_
 have f7 := hva0.ext cwl4
 refine sx_pure rfl rfl rfl (px_len rfl Try.underlying22 f7) ?_
 refine sx_pure rfl rfl rfl (px_lt rfl rfl) ?_
 refine wl_nil (q_n (k6 _ _ ?_))
 refine sx_condP rfl (fun h230 => ?_) (fun h230 => ?_)
 ·
  refine sx_skip ?_
  refine q_n (k5 _ _ ?_)
  refine sx_seq fun K8 k8 => ?_
  refine sx_block ?_
  refine sx_seq fun K9 k9 => ?_
  refine sx_seq fun K10 k10 => sx_region ?_
  refine sm rfl rfl rfl rfl ?_
  refine sm rfl rfl rfl rfl ?_
  refine sx_pure rfl rfl rfl (px_index1 (j := k) rfl rfl (by omega) Try.underlying22 Try.sizeOf3 f7 (by omega)) ?_
  refine sx_pure rfl rfl rfl (px_load rfl (f7.load1 (at_int (by omega)) Try.isAgg3)) ?_
  refine sm rfl rfl rfl rfl ?_
  refine sx_pure rfl rfl rfl (px_ne rfl rfl) ?_
  refine wl_nil (q_n (k10 _ _ ?_))
  have h231 : ¬ (((zs).getD k 0 : Int) ≠ n + ↑k) := fun h => h (by rw [hz]; exact mk_getD (by omega))
  refine sx_condPF rfl h231 ?_
  refine sx_skip ?_
  refine q_n (k9 _ _ ?_)
  refine sx_region ?_
  refine sm rfl rfl rfl rfl ?_
  refine sx_pure rfl rfl rfl (px_add rfl rfl (by omega)) ?_
  refine sa rfl rfl rfl rfl ?_
  refine wl_nil ?_
  refine q_bn (q_n (k8 _ _ ?_))
  refine sx_sub (Sub.cons (t := 0) rfl (.cons (t := 1) rfl (.cons (t := 5) rfl (.nil)))) ?_
  refine sx_region ?_
  refine sm rfl rfl rfl rfl ?_
  refine sx_pure rfl rfl rfl (px_add rfl rfl (by omega)) ?_
  refine sa rfl rfl rfl rfl ?_
  refine wl_nil ?_
  exact fun a ha => ⟨_, by omega, (k + 1), ha.sub (Sub.cons (t := 0) rfl (.cons (t := 1) (look_int (t := 1) rfl (by first | omega | simp)) (.cons (t := 5) (look_int (t := 5) rfl (by first | omega | simp)) (.nil)))), cwl4, rfl, by omega⟩
 ·
  refine sx_exit ?_
  refine q_e (q_e (q_bx (q_n (k2 _ _ ?_))))
  refine sx_seq fun K11 k11 => sx_region ?_
  refine sm rfl rfl rfl rfl ?_
  refine sa rfl rfl rfl rfl ?_
  refine wl_nil (q_n (k11 _ _ ?_))
  refine sx_retc ?_
  refine sx_ret1 Try.results68 rfl ?_
  have ek : k = zs.length := by omega
  subst ek
  exact ⟨rfl, cwl4⟩

theorem c_heldSigned {w : World} {n1 : Bool} {v1 : Value} {lv1 uv1 : Nat} {z1 : List Int} {n : Int} (hv1 : Sl w lv1 uv1 v1 (z1)) (h63 : z1.length ≤ 1048576) (hn : 0 ≤ n ∧ n ≤ 4611686018427387904) (hz : z1 = mk n z1.length) :
  Ret Try.prog 27 [.agg #[.bool n1, v1], .int .i64 n] w fun v w' => v = .int .i64 (n + ↑(z1).length) ∧ Chg 0 0 w w' := by
 have hv10 := hv1.fit
 refine sx_enter Try.func27 rfl Try.ntmps27 (Nat.le_of_ble_eq_true rfl) ?_
 refine sx_seq fun K1 k1 => sx_region ?_
 refine sx_box [.bool n1, v1] rfl rfl rfl (fun b2 w3 eb2 sb2 fb2 cb2 => ?_)
 have zw3 := cb2.size
 refine sa rfl rfl rfl rfl ?_
 refine wl_nil (q_n (k1 _ _ ?_))
 refine sx_seq fun K4 k4 => sx_region ?_
 refine sx_pure rfl rfl rfl (px_field rfl xfld28x1) ?_
 refine sx_pure rfl rfl rfl (px_load rfl (fb2.load1 rfl Try.isAgg22)) ?_
 refine sm rfl rfl rfl rfl ?_
 have f5 := hv10.ext cb2
 refine sx_call rfl rfl Try.call68 (c_heldIntS f5 (by omega) (by omega) (by first | assumption | simp [mk_length])) (fun v6 w6 p6 => ?_)
 obtain ⟨rfl, c6⟩ := p6
 have zw6 := c6.size
 refine sa rfl rfl rfl rfl ?_
 refine wl_nil (q_n (k4 _ _ ?_))
 refine sx_seq fun K7 k7 => ?_
 refine sx_seq fun K8 k8 => sx_region ?_
 refine sm rfl rfl rfl rfl ?_
 refine sx_pure rfl rfl rfl (px_lt rfl rfl) ?_
 refine wl_nil (q_n (k8 _ _ ?_))
 have h279 : ¬ ((n + ↑(z1).length : Int) < 0) := by omega
 refine sx_condPF rfl h279 ?_
 refine sx_skip ?_
 refine q_n (k7 _ _ ?_)
 refine sx_seq fun K9 k9 => sx_region ?_
 refine sm rfl rfl rfl rfl ?_
 refine sa rfl rfl rfl rfl ?_
 refine wl_nil (q_n (k9 _ _ ?_))
 refine sx_retc ?_
 refine sx_ret1 Try.results27 rfl ?_
 exact ⟨rfl, (cb2.t c6)⟩

theorem c_heldDec {w : World} {n1 : Bool} {v1 : Value} {lv1 uv1 : Nat} {z1 : List Int} {p1 : Int} {n : Int} (hv1 : Sl w lv1 uv1 v1 (z1)) (h63 : z1.length ≤ 1048576) (hn : 0 ≤ n ∧ n ≤ 4611686018427387904) (hz : z1 = mk n z1.length) :
  Ret Try.prog 14 [.agg #[.bool n1, v1, .int .i64 p1], .int .i64 n] w fun v w' => v = .int .i64 (n + ↑(z1).length) ∧ Chg 0 0 w w' := by
 have hv10 := hv1.fit
 refine sx_enter Try.func14 rfl Try.ntmps14 (Nat.le_of_ble_eq_true rfl) ?_
 refine sx_seq fun K1 k1 => sx_region ?_
 refine sx_box [.bool n1, v1, .int .i64 p1] rfl rfl rfl (fun b2 w3 eb2 sb2 fb2 cb2 => ?_)
 have zw3 := cb2.size
 refine sa rfl rfl rfl rfl ?_
 refine wl_nil (q_n (k1 _ _ ?_))
 refine sx_seq fun K4 k4 => sx_region ?_
 refine sx_pure rfl rfl rfl (px_field rfl xfld30x0) ?_
 refine sx_pure rfl rfl rfl (px_load rfl (fb2.loadA (vs := [.bool n1, v1]) (look_lit rfl) Try.isAgg28 Try.sizeOf28)) ?_
 refine sm rfl rfl rfl rfl ?_
 have f5 := hv10.ext cb2
 refine sx_call rfl rfl Try.call27 (c_heldSigned f5 (by first | omega | (simp only [mk_length]; omega)) (by omega) (by first | assumption | simp [mk_length])) (fun v6 w6 p6 => ?_)
 obtain ⟨rfl, c6⟩ := p6
 have zw6 := c6.size
 refine sa rfl rfl rfl rfl ?_
 refine wl_nil (q_n (k4 _ _ ?_))
 refine sx_seq fun K7 k7 => ?_
 refine sx_seq fun K8 k8 => sx_region ?_
 refine sm rfl rfl rfl rfl ?_
 refine sx_pure rfl rfl rfl (px_lt rfl rfl) ?_
 refine wl_nil (q_n (k8 _ _ ?_))
 have h421 : ¬ ((n + ↑(z1).length : Int) < 0) := by omega
 refine sx_condPF rfl h421 ?_
 refine sx_skip ?_
 refine q_n (k7 _ _ ?_)
 refine sx_seq fun K9 k9 => sx_region ?_
 refine sm rfl rfl rfl rfl ?_
 refine sa rfl rfl rfl rfl ?_
 refine wl_nil (q_n (k9 _ _ ?_))
 refine sx_retc ?_
 refine sx_ret1 Try.results14 rfl ?_
 exact ⟨rfl, (cb2.t c6)⟩

theorem c_sDecLow {w : World} {n1 : Bool} {v1 : Value} {lv1 uv1 : Nat} {z1 : List Int} {p1 : Int} (hv1 : Sl w lv1 uv1 v1 (z1)) (h63 : z1.length ≤ 4611686018427387904) :
  Ret Try.prog 15 [.agg #[.bool n1, v1, .int .i64 p1]] w fun v w' => ∃ s, v = .agg #[.bool ((dLow n1 z1 p1).1), s, .int .i64 ((dLow n1 z1 p1).2.2.1)] ∧ Sl w' (w.heap.size) (w'.heap.size) s ((dLow n1 z1 p1).2.1) ∧ ((dLow n1 z1 p1).2.1.length ≤ 6) ∧ Chg 0 0 w w' := by
 have hv10 := hv1.fit
 refine sx_enter Try.func15 rfl Try.ntmps15 (Nat.le_of_ble_eq_true rfl) ?_
 refine sx_seq fun K1 k1 => sx_region ?_
 refine sx_box [.bool n1, v1, .int .i64 p1] rfl rfl rfl (fun b2 w3 eb2 sb2 fb2 cb2 => ?_)
 have zw3 := cb2.size
 refine sx_alloc [.bool false, (.slice none 0 0), .int .i64 0] rfl Try.zeroValue30 rfl (fun b4 w5 eb4 sb4 fb4 cb4 => ?_)
 have zw5 := cb4.size
 refine wl_nil (q_n (k1 _ _ ?_))
 refine sx_seq fun K6 k6 => ?_
 refine sx_seq fun K7 k7 => sx_region ?_
 refine sa rfl rfl rfl rfl ?_
 refine wl_nil (q_n (k7 _ _ ?_))
 refine sx_block ?_
 have f9 := fb2.ext cb4
 refine sx_loop (fun mm aa w' => ∃ (k : Nat), Agr 19 [(1, .pointer (some ⟨b2, 0, none⟩)), (2, .pointer (some ⟨b4, 0, none⟩)), (3, .int .i64 ↑k)] aa ∧ Chg 0 0 w5 w' ∧ Blk w' b2 [.bool n1, v1, .int .i64 p1] 30 ∧ Blk w' b4 [.bool false, (.slice none 0 0), .int .i64 0] 30 ∧ (mm = 31 - k) ∧ (k ≤ 31) ∧ (∀ i : Nat, i < k → (dAt n1 z1 p1 (i : Nat)).2.2.2 = false)) (_) (fun a ha => ⟨0, ha.sub (Sub.cons (t := 1) rfl (.cons (t := 2) rfl (.cons (t := 3) (look_int (t := 3) rfl (by first | omega | simp)) (.nil)))), Chg.refl _ _ _, f9, fb4, rfl, by omega, fun i hi => by omega⟩) ?_
 rintro mm aa wl8 ⟨k, hAwl8, cwl8, hb_b2, hb_b4, hm, hk, hn⟩
 refine (show cw Try.prog 19 _ _ _ wl8 from ?_) aa hAwl8
 clear hAwl8
 have zwl8 := cwl8.size
 refine sx_seq fun K10 k10 => ?_
 refine sx_seq fun K11 k11 => sx_region ?_
 refine sm rfl rfl rfl rfl ?_
 refine sx_pure rfl rfl rfl (px_le rfl rfl) ?_
 refine wl_nil (q_n (k11 _ _ ?_))
 refine sx_condP rfl (fun h85 => ?_) (fun h85 => ?_)
 ·
  refine sx_skip ?_
  refine q_n (k10 _ _ ?_)
  refine sx_seq fun K12 k12 => ?_
  refine sx_block ?_
  refine sx_seq fun K13 k13 => sx_region ?_
  refine sx_pure rfl rfl rfl (px_load rfl (hb_b2.loadA (vs := [.bool n1, v1, .int .i64 p1]) (look_lit rfl) Try.isAgg30 Try.sizeOf30)) ?_
  refine sm rfl rfl rfl rfl ?_
  have f14 := hv10.ext cb2
  have f15 := f14.ext cb4
  have f16 := f15.ext cwl8
  refine sx_call rfl rfl Try.call9 (c_sDecAt f16 (by omega)) (fun v17 w17 p17 => ?_)
  obtain ⟨s17, rfl, os_17, hl17, c17⟩ := p17
  have zw17 := c17.size
  refine sm rfl rfl rfl rfl ?_
  refine sx_pure rfl rfl rfl (px_extract (vs := [.agg #[.bool ((dAt n1 z1 p1 ↑k).1), s17, .int .i64 ((dAt n1 z1 p1 ↑k).2.2.1)], .bool ((dAt n1 z1 p1 ↑k).2.2.2)]) rfl rfl) ?_
  refine sx_pure rfl rfl rfl (px_extract (vs := [.agg #[.bool ((dAt n1 z1 p1 ↑k).1), s17, .int .i64 ((dAt n1 z1 p1 ↑k).2.2.1)], .bool ((dAt n1 z1 p1 ↑k).2.2.2)]) rfl rfl) ?_
  refine sx_alloc [.bool false, (.slice none 0 0), .int .i64 0] rfl Try.zeroValue30 rfl (fun b18 w19 eb18 sb18 fb18 cb18 => ?_)
  have zw19 := cb18.size
  have f21 := os_17.ext cb18
  refine sx_store (vs := [.bool ((dAt n1 z1 p1 ↑k).1), s17, .int .i64 ((dAt n1 z1 p1 ↑k).2.2.1)]) rfl rfl fb18 rfl Try.sizeOf30 (Nat.le_of_ble_eq_true rfl) (one_cons rfl (one_cons f21.one (one_cons rfl one_nil))) (fun w20 sw20 fw20 cw20 => ?_)
  have zw20 := cw20.size
  have gw20 : Blk w20 b18 [.bool ((dAt n1 z1 p1 ↑k).1), s17, .int .i64 ((dAt n1 z1 p1 ↑k).2.2.1)] 30 := fw20
  refine sa rfl rfl rfl rfl ?_
  refine wl_nil (q_n (k13 _ _ ?_))
  refine sx_seq fun K22 k22 => sx_region ?_
  refine sm rfl rfl rfl rfl ?_
  refine wl_nil (q_n (k22 _ _ ?_))
  refine sx_condB rfl (fun h87 => ?_) (fun h87 => ?_)
  ·
   refine sx_seq fun K23 k23 => sx_region ?_
   refine sx_pure rfl rfl rfl (px_load rfl (gw20.loadA (vs := [.bool ((dAt n1 z1 p1 ↑k).1), s17, .int .i64 ((dAt n1 z1 p1 ↑k).2.2.1)]) (look_lit rfl) Try.isAgg30 Try.sizeOf30)) ?_
   have f25 := hb_b4.ext c17
   have f26 := f25.ext cb18
   have f27 := f26.chg cw20 (by omega)
   have f28 := f21.chg cw20 (by omega)
   refine sx_store (vs := [.bool ((dAt n1 z1 p1 ↑k).1), s17, .int .i64 ((dAt n1 z1 p1 ↑k).2.2.1)]) rfl rfl f27 rfl Try.sizeOf30 (Nat.le_of_ble_eq_true rfl) (one_cons rfl (one_cons f28.one (one_cons rfl one_nil))) (fun w24 sw24 fw24 cw24 => ?_)
   have zw24 := cw24.size
   have gw24 : Blk w24 b4 [.bool ((dAt n1 z1 p1 ↑k).1), s17, .int .i64 ((dAt n1 z1 p1 ↑k).2.2.1)] 30 := fw24
   refine wl_nil (q_n (k23 _ _ ?_))
   refine sx_sub (Sub.cons (t := 1) rfl (.cons (t := 2) rfl (.cons (t := 3) rfl (.nil)))) ?_
   refine sx_retc ?_
   refine q_br (q_r (q_r (q_br (q_r (sx_ret1 Try.results15 ⟨_, rfl, gw24.loadA (vs := [.bool ((dAt n1 z1 p1 ↑k).1), s17, .int .i64 ((dAt n1 z1 p1 ↑k).2.2.1)]) (look_lit rfl) Try.isAgg30 Try.sizeOf30⟩ ?_)))))
   rw [dLow_some (k := k) (by omega) hn h87]
   have q29 := Chg.step (l := 0) (h := 0) (Chg.zero (l := 0) (h := 0) ((((cb2.t cb4).t cwl8).t c17).t cb18)) cw20 (by omega)
   have q30 := Chg.step (l := 0) (h := 0) q29 cw24 (by omega)
   have f31 := f28.chg cw24 (by omega)
   exact ⟨_, rfl, (Sv.mono f31 (by omega) (by omega)), dAt_len, q30⟩
  ·
   refine sx_skip ?_
   refine q_bn (q_n (k12 _ _ ?_))
   refine sx_region ?_
   refine sm rfl rfl rfl rfl ?_
   refine sx_pure rfl rfl rfl (px_add rfl rfl (by omega)) ?_
   refine sa rfl rfl rfl rfl ?_
   refine wl_nil ?_
   have q32 := Chg.step (l := 0) (h := 0) (Chg.zero (l := 0) (h := 0) ((cwl8.t c17).t cb18)) cw20 (by omega)
   have f33 := hb_b2.ext c17
   have f34 := f33.ext cb18
   have f35 := f34.chg cw20 (by omega)
   have f36 := hb_b4.ext c17
   have f37 := f36.ext cb18
   have f38 := f37.chg cw20 (by omega)
   exact fun a ha => ⟨_, by omega, (k + 1), ha.sub (Sub.cons (t := 1) rfl (.cons (t := 2) rfl (.cons (t := 3) (look_int (t := 3) rfl (by first | omega | simp)) (.nil)))), q32, f35, f38, rfl, by omega, low_next hn h87⟩
 ·
  refine sx_exit ?_
  refine q_e (q_e (q_bx (q_n (k6 _ _ ?_))))
  refine sx_seq fun K39 k39 => sx_region ?_
  refine sx_pure rfl rfl rfl (px_build rfl (xbld30x  _)) ?_
  refine sx_store (vs := [.bool false, (.slice none 0 0), .int .i64 0]) rfl rfl hb_b4 rfl Try.sizeOf30 (Nat.le_of_ble_eq_true rfl) (one_cons rfl (one_cons rfl (one_cons rfl one_nil))) (fun w40 sw40 fw40 cw40 => ?_)
  have zw40 := cw40.size
  have gw40 : Blk w40 b4 [.bool false, (.slice none 0 0), .int .i64 0] 30 := fw40
  refine wl_nil (q_n (k39 _ _ ?_))
  refine sx_retc ?_
  refine sx_ret1 Try.results15 ⟨_, rfl, gw40.loadA (vs := [.bool false, (.slice none 0 0), .int .i64 0]) (look_lit rfl) Try.isAgg30 Try.sizeOf30⟩ ?_
  rw [dLow_none (fun i hi => hn i (by omega))]
  have q41 := Chg.step (l := 0) (h := 0) (Chg.zero (l := 0) (h := 0) ((cb2.t cb4).t cwl8)) cw40 (by omega)
  exact ⟨_, rfl, Sv.nil _ _ _ _, by simp [noD], q41⟩

theorem c_iDecLow {w : World} {n1 : Bool} {v1 : Value} {lv1 uv1 : Nat} {z1 : List Int} {p1 : Int} (hv1 : Sl w lv1 uv1 v1 (z1)) (h63 : z1.length ≤ 4611686018427387904) :
  Ret Try.prog 16 [.agg #[.bool n1, v1, .int .i64 p1]] w fun v w' => ∃ s, v = .agg #[.bool ((dLow n1 z1 p1).1), s, .int .i64 ((dLow n1 z1 p1).2.2.1)] ∧ OwnI w' w.heap.size w'.heap.size s intT ((dLow n1 z1 p1).2.1) ∧ ((dLow n1 z1 p1).2.1.length ≤ 6) ∧ Chg 0 0 w w' := by
 have hv10 := hv1.fit
 refine sx_enter Try.func16 rfl Try.ntmps16 (Nat.le_of_ble_eq_true rfl) ?_
 refine sx_seq fun K1 k1 => sx_region ?_
 refine sx_box [.bool n1, v1, .int .i64 p1] rfl rfl rfl (fun b2 w3 eb2 sb2 fb2 cb2 => ?_)
 have zw3 := cb2.size
 refine sx_alloc [.bool false, (.slice none 0 0), .int .i64 0] rfl Try.zeroValue30 rfl (fun b4 w5 eb4 sb4 fb4 cb4 => ?_)
 have zw5 := cb4.size
 refine wl_nil (q_n (k1 _ _ ?_))
 refine sx_seq fun K6 k6 => ?_
 refine sx_seq fun K7 k7 => sx_region ?_
 refine sa rfl rfl rfl rfl ?_
 refine wl_nil (q_n (k7 _ _ ?_))
 refine sx_block ?_
 have f9 := fb2.ext cb4
 refine sx_loop (fun mm aa w' => ∃ (k : Nat), Agr 25 [(1, .pointer (some ⟨b2, 0, none⟩)), (2, .pointer (some ⟨b4, 0, none⟩)), (3, .int .i64 ↑k)] aa ∧ Chg 0 0 w5 w' ∧ Blk w' b2 [.bool n1, v1, .int .i64 p1] 30 ∧ Blk w' b4 [.bool false, (.slice none 0 0), .int .i64 0] 30 ∧ (mm = 31 - k) ∧ (k ≤ 31) ∧ (∀ i : Nat, i < k → (dAt n1 z1 p1 (i : Nat)).2.2.2 = false)) (_) (fun a ha => ⟨0, ha.sub (Sub.cons (t := 1) rfl (.cons (t := 2) rfl (.cons (t := 3) (look_int (t := 3) rfl (by first | omega | simp)) (.nil)))), Chg.refl _ _ _, f9, fb4, rfl, by omega, fun i hi => by omega⟩) ?_
 rintro mm aa wl8 ⟨k, hAwl8, cwl8, hb_b2, hb_b4, hm, hk, hn⟩
 refine (show cw Try.prog 25 _ _ _ wl8 from ?_) aa hAwl8
 clear hAwl8
 have zwl8 := cwl8.size
 refine sx_seq fun K10 k10 => ?_
 refine sx_seq fun K11 k11 => sx_region ?_
 refine sm rfl rfl rfl rfl ?_
 refine sx_pure rfl rfl rfl (px_field rfl xfld30x1) ?_
 refine sx_pure rfl rfl rfl (px_load rfl (hb_b2.load1 rfl Try.isAgg3)) ?_
 refine sx_pure rfl rfl rfl (px_le rfl rfl) ?_
 refine sm rfl rfl rfl rfl ?_
 refine sx_tmpP (t := 10) rfl (fun h102 => ?_) (fun h102 => ?_)
 ·
  refine sx_guardT rfl rfl rfl ?_
  refine sm rfl rfl rfl rfl ?_
  refine sx_guardT rfl rfl rfl ?_
  refine sx_pure rfl rfl rfl (px_le rfl rfl) ?_
  refine sx_pure rfl rfl rfl (px_pick rfl rfl) ?_
  refine wl_nil (q_n (k11 _ _ ?_))
  refine sx_condP rfl (fun h102x1 => ?_) (fun h102x1 => ?_)
  ·
   refine sx_skip ?_
   refine q_n (k10 _ _ ?_)
   refine sx_seq fun K12 k12 => ?_
   refine sx_block ?_
   refine sx_seq fun K13 k13 => sx_region ?_
   refine sx_pure rfl rfl rfl (px_load rfl (hb_b2.loadA (vs := [.bool n1, v1, .int .i64 p1]) (look_lit rfl) Try.isAgg30 Try.sizeOf30)) ?_
   refine sm rfl rfl rfl rfl ?_
   have f14 := hv10.ext cb2
   have f15 := f14.ext cb4
   have f16 := f15.ext cwl8
   refine sx_call rfl rfl Try.call11 (c_iDecAt f16 (by omega)) (fun v17 w17 p17 => ?_)
   obtain ⟨s17, rfl, os_17, hl17, c17⟩ := p17
   have zw17 := c17.size
   refine sm rfl rfl rfl rfl ?_
   refine sx_pure rfl rfl rfl (px_extract (vs := [.agg #[.bool ((dAt n1 z1 p1 ↑k).1), s17, .int .i64 ((dAt n1 z1 p1 ↑k).2.2.1)], .bool ((dAt n1 z1 p1 ↑k).2.2.2)]) rfl rfl) ?_
   refine sx_pure rfl rfl rfl (px_extract (vs := [.agg #[.bool ((dAt n1 z1 p1 ↑k).1), s17, .int .i64 ((dAt n1 z1 p1 ↑k).2.2.1)], .bool ((dAt n1 z1 p1 ↑k).2.2.2)]) rfl rfl) ?_
   refine sx_alloc [.bool false, (.slice none 0 0), .int .i64 0] rfl Try.zeroValue30 rfl (fun b18 w19 eb18 sb18 fb18 cb18 => ?_)
   have zw19 := cb18.size
   have f21 := os_17.ext cb18
   refine sx_store (vs := [.bool ((dAt n1 z1 p1 ↑k).1), s17, .int .i64 ((dAt n1 z1 p1 ↑k).2.2.1)]) rfl rfl fb18 rfl Try.sizeOf30 (Nat.le_of_ble_eq_true rfl) (one_cons rfl (one_cons f21.one (one_cons rfl one_nil))) (fun w20 sw20 fw20 cw20 => ?_)
   have zw20 := cw20.size
   have gw20 : Blk w20 b18 [.bool ((dAt n1 z1 p1 ↑k).1), s17, .int .i64 ((dAt n1 z1 p1 ↑k).2.2.1)] 30 := fw20
   refine sa rfl rfl rfl rfl ?_
   refine wl_nil (q_n (k13 _ _ ?_))
   refine sx_sub (Sub.cons (t := 1) rfl (.cons (t := 2) rfl (.cons (t := 3) rfl (.cons (t := 4) rfl (.cons (t := 5) rfl (.nil)))))) ?_
   refine sx_seq fun K22 k22 => sx_region ?_
   refine sm rfl rfl rfl rfl ?_
   refine wl_nil (q_n (k22 _ _ ?_))
   refine sx_condB rfl (fun h103 => ?_) (fun h103 => ?_)
   ·
    refine sx_seq fun K23 k23 => sx_region ?_
    refine sx_pure rfl rfl rfl (px_load rfl (gw20.loadA (vs := [.bool ((dAt n1 z1 p1 ↑k).1), s17, .int .i64 ((dAt n1 z1 p1 ↑k).2.2.1)]) (look_lit rfl) Try.isAgg30 Try.sizeOf30)) ?_
    have f25 := hb_b4.ext c17
    have f26 := f25.ext cb18
    have f27 := f26.chg cw20 (by omega)
    have f28 := f21.chg cw20 (by omega)
    refine sx_store (vs := [.bool ((dAt n1 z1 p1 ↑k).1), s17, .int .i64 ((dAt n1 z1 p1 ↑k).2.2.1)]) rfl rfl f27 rfl Try.sizeOf30 (Nat.le_of_ble_eq_true rfl) (one_cons rfl (one_cons f28.one (one_cons rfl one_nil))) (fun w24 sw24 fw24 cw24 => ?_)
    have zw24 := cw24.size
    have gw24 : Blk w24 b4 [.bool ((dAt n1 z1 p1 ↑k).1), s17, .int .i64 ((dAt n1 z1 p1 ↑k).2.2.1)] 30 := fw24
    refine wl_nil (q_n (k23 _ _ ?_))
    refine sx_retc ?_
    refine q_br (q_r (q_r (q_br (q_r (sx_ret1 Try.results16 ⟨_, rfl, gw24.loadA (vs := [.bool ((dAt n1 z1 p1 ↑k).1), s17, .int .i64 ((dAt n1 z1 p1 ↑k).2.2.1)]) (look_lit rfl) Try.isAgg30 Try.sizeOf30⟩ ?_)))))
    rw [dLow_some (k := k) (by omega) hn h103]
    have q29 := Chg.step (l := 0) (h := 0) (Chg.zero (l := 0) (h := 0) ((((cb2.t cb4).t cwl8).t c17).t cb18)) cw20 (by omega)
    have q30 := Chg.step (l := 0) (h := 0) q29 cw24 (by omega)
    have f31 := f28.chg cw24 (by omega)
    exact ⟨_, rfl, (Own.mono f31 (by omega) (by omega)), dAt_len, q30⟩
   ·
    refine sx_skip ?_
    refine q_bn (q_n (k12 _ _ ?_))
    refine sx_region ?_
    refine sm rfl rfl rfl rfl ?_
    refine sx_pure rfl rfl rfl (px_add rfl rfl (by omega)) ?_
    refine sa rfl rfl rfl rfl ?_
    refine wl_nil ?_
    have q32 := Chg.step (l := 0) (h := 0) (Chg.zero (l := 0) (h := 0) ((cwl8.t c17).t cb18)) cw20 (by omega)
    have f33 := hb_b2.ext c17
    have f34 := f33.ext cb18
    have f35 := f34.chg cw20 (by omega)
    have f36 := hb_b4.ext c17
    have f37 := f36.ext cb18
    have f38 := f37.chg cw20 (by omega)
    exact fun a ha => ⟨_, by omega, (k + 1), ha.sub (Sub.cons (t := 1) rfl (.cons (t := 2) rfl (.cons (t := 3) (look_int (t := 3) rfl (by first | omega | simp)) (.nil)))), q32, f35, f38, rfl, by omega, low_next hn h103⟩
  ·
   refine sx_exit ?_
   refine q_e (q_e (q_bx (q_n (k6 _ _ ?_))))
   refine sx_seq fun K39 k39 => sx_region ?_
   refine sx_pure rfl rfl rfl (px_build rfl (xbld30x  _)) ?_
   refine sx_store (vs := [.bool false, (.slice none 0 0), .int .i64 0]) rfl rfl hb_b4 rfl Try.sizeOf30 (Nat.le_of_ble_eq_true rfl) (one_cons rfl (one_cons rfl (one_cons rfl one_nil))) (fun w40 sw40 fw40 cw40 => ?_)
   have zw40 := cw40.size
   have gw40 : Blk w40 b4 [.bool false, (.slice none 0 0), .int .i64 0] 30 := fw40
   refine wl_nil (q_n (k39 _ _ ?_))
   refine sx_retc ?_
   refine sx_ret1 Try.results16 ⟨_, rfl, gw40.loadA (vs := [.bool false, (.slice none 0 0), .int .i64 0]) (look_lit rfl) Try.isAgg30 Try.sizeOf30⟩ ?_
   rw [dLow_bad (k := k) hn (by omega)]
   have q41 := Chg.step (l := 0) (h := 0) (Chg.zero (l := 0) (h := 0) ((cb2.t cb4).t cwl8)) cw40 (by omega)
   exact ⟨_, rfl, Own.nil _ _ _ _ _, by simp [noD], q41⟩
 ·
  refine sx_guardF rfl rfl rfl rfl rfl rfl ?_
  refine sx_guardF rfl rfl rfl rfl rfl rfl ?_
  refine sx_pure rfl rfl rfl (px_pick rfl rfl) ?_
  refine wl_nil (q_n (k11 _ _ ?_))
  refine sx_condF rfl ?_
  refine sx_exit ?_
  refine q_e (q_e (q_bx (q_n (k6 _ _ ?_))))
  refine sx_seq fun K42 k42 => sx_region ?_
  refine sx_pure rfl rfl rfl (px_build rfl (xbld30x  _)) ?_
  refine sx_store (vs := [.bool false, (.slice none 0 0), .int .i64 0]) rfl rfl hb_b4 rfl Try.sizeOf30 (Nat.le_of_ble_eq_true rfl) (one_cons rfl (one_cons rfl (one_cons rfl one_nil))) (fun w43 sw43 fw43 cw43 => ?_)
  have zw43 := cw43.size
  have gw43 : Blk w43 b4 [.bool false, (.slice none 0 0), .int .i64 0] 30 := fw43
  refine wl_nil (q_n (k42 _ _ ?_))
  refine sx_retc ?_
  refine sx_ret1 Try.results16 ⟨_, rfl, gw43.loadA (vs := [.bool false, (.slice none 0 0), .int .i64 0]) (look_lit rfl) Try.isAgg30 Try.sizeOf30⟩ ?_
  rw [dLow_bad (k := k) hn (by omega)]
  have q44 := Chg.step (l := 0) (h := 0) (Chg.zero (l := 0) (h := 0) ((cb2.t cb4).t cwl8)) cw43 (by omega)
  exact ⟨_, rfl, Own.nil _ _ _ _ _, by simp [noD], q44⟩

theorem c_szRat {w : World} {n1 : Bool} {v1 : Value} {lv1 uv1 : Nat} {z1 : List Int} {d1 : Value} {ld1 ud1 : Nat} {y1 : List Int} {n : Int} (hv1 : Sl w lv1 uv1 v1 (z1)) (hd1 : Sl w ld1 ud1 d1 (y1)) (bz1 : z1.length ≤ 9223372036854775807) (by1 : y1.length ≤ 9223372036854775807) (hn : 0 ≤ n ∧ n ≤ 1048576) :
  Ret Try.prog 17 [.agg #[.bool n1, v1, d1], .int .i64 n] w fun v w' => ∃ r, v = .int .i64 (r) ∧ (r < 0 ∨ (0 ≤ r ∧ r = n - (z1).length - (y1).length)) ∧ Chg 0 0 w w' := by
 have hv10 := hv1.fit
 have hd10 := hd1.fit
 refine sx_enter Try.func17 rfl Try.ntmps17 (Nat.le_of_ble_eq_true rfl) ?_
 refine sx_seq fun K1 k1 => sx_region ?_
 refine sx_box [.bool n1, v1, d1] rfl rfl rfl (fun b2 w3 eb2 sb2 fb2 cb2 => ?_)
 have zw3 := cb2.size
 refine sa rfl rfl rfl rfl ?_
 refine wl_nil (q_n (k1 _ _ ?_))
 refine sx_seq fun K4 k4 => sx_region ?_
 refine sx_pure rfl rfl rfl (px_field rfl xfld40x0) ?_
 refine sx_pure rfl rfl rfl (px_load rfl (fb2.loadA (vs := [.bool n1, v1]) (look_lit rfl) Try.isAgg24 Try.sizeOf24)) ?_
 refine sm rfl rfl rfl rfl ?_
 have f5 := hv10.ext cb2
 refine sx_call rfl rfl Try.call31 (c_szSigned f5 (by omega) (by omega)) (fun v6 w6 p6 => ?_)
 obtain ⟨r6, rfl, hr6, c6⟩ := p6
 have zw6 := c6.size
 refine sa rfl rfl rfl rfl ?_
 refine wl_nil (q_n (k4 _ _ ?_))
 refine sx_seq fun K7 k7 => ?_
 refine sx_seq fun K8 k8 => sx_region ?_
 refine sm rfl rfl rfl rfl ?_
 refine sx_pure rfl rfl rfl (px_lt rfl rfl) ?_
 refine wl_nil (q_n (k8 _ _ ?_))
 refine sx_condP rfl (fun h351 => ?_) (fun h351 => ?_)
 ·
  refine sx_seq fun K9 k9 => sx_region ?_
  refine sa rfl rfl rfl rfl ?_
  refine wl_nil (q_n (k9 _ _ ?_))
  refine sx_retc ?_
  refine q_r (sx_ret1 Try.results17 rfl ?_)
  exact ⟨_, rfl, by omega, (cb2.t c6)⟩
 ·
  refine sx_skip ?_
  refine q_n (k7 _ _ ?_)
  refine sx_seq fun K10 k10 => sx_region ?_
  refine sx_pure rfl rfl rfl (px_field rfl xfld40x1) ?_
  have f11 := fb2.ext c6
  refine sx_pure rfl rfl rfl (px_load rfl (f11.load1 rfl Try.isAgg22)) ?_
  refine sm rfl rfl rfl rfl ?_
  have f12 := hd10.ext cb2
  have f13 := f12.ext c6
  refine sx_call rfl rfl Try.call46 (c_szIntS f13 (by omega) (by omega)) (fun v14 w14 p14 => ?_)
  obtain ⟨r14, rfl, hr14, c14⟩ := p14
  have zw14 := c14.size
  refine sa rfl rfl rfl rfl ?_
  refine wl_nil (q_n (k10 _ _ ?_))
  refine sx_seq fun K15 k15 => ?_
  refine sx_seq fun K16 k16 => sx_region ?_
  refine sm rfl rfl rfl rfl ?_
  refine sx_pure rfl rfl rfl (px_lt rfl rfl) ?_
  refine wl_nil (q_n (k16 _ _ ?_))
  refine sx_sub (Sub.cons (t := 1) rfl (.cons (t := 4) rfl (.cons (t := 16) rfl (.nil)))) ?_
  refine sx_condP rfl (fun h355 => ?_) (fun h355 => ?_)
  ·
   refine sx_seq fun K17 k17 => sx_region ?_
   refine sa rfl rfl rfl rfl ?_
   refine wl_nil (q_n (k17 _ _ ?_))
   refine sx_retc ?_
   refine q_r (sx_ret1 Try.results17 rfl ?_)
   exact ⟨_, rfl, by omega, ((cb2.t c6).t c14)⟩
  ·
   refine sx_skip ?_
   refine q_n (k15 _ _ ?_)
   refine sx_seq fun K18 k18 => sx_region ?_
   refine sm rfl rfl rfl rfl ?_
   refine sa rfl rfl rfl rfl ?_
   refine wl_nil (q_n (k18 _ _ ?_))
   refine sx_retc ?_
   refine sx_ret1 Try.results17 rfl ?_
   exact ⟨_, rfl, by omega, ((cb2.t c6).t c14)⟩

theorem c_toRat {w : World} {n1 : Bool} {v1 : Value} {lv1 uv1 : Nat} {z1 : List Int} {d1 : Value} {ld1 ud1 : Nat} {y1 : List Int} (hv1 : Sl w lv1 uv1 v1 (z1)) (hd1 : Sl w ld1 ud1 d1 (y1)) (bz1 : z1.length ≤ 1048576) (by1 : y1.length ≤ 1048576) :
  Ret Try.prog 19 [.agg #[.bool n1, v1, d1]] w fun v w' => ∃ s t ls us lt ut, v = .agg #[.bool (n1), s, t] ∧ OwnI w' (ls) (us) s intT (z1) ∧ OwnI w' (lt) (ut) t intT (y1) ∧ (w.heap.size ≤ ls ∧ us ≤ w'.heap.size ∧ w.heap.size ≤ lt ∧ ut ≤ w'.heap.size ∧ (us ≤ lt ∨ ut ≤ ls)) ∧ Chg 0 0 w w' := by
 have hv10 := hv1.fit
 have hd10 := hd1.fit
 refine sx_enter Try.func19 rfl Try.ntmps19 (Nat.le_of_ble_eq_true rfl) ?_
 refine sx_seq fun K1 k1 => sx_region ?_
 refine sx_box [.bool n1, v1, d1] rfl rfl rfl (fun b2 w3 eb2 sb2 fb2 cb2 => ?_)
 have zw3 := cb2.size
 refine sx_alloc [.bool false, (.slice none 0 0), (.slice none 0 0)] rfl Try.zeroValue44 rfl (fun b4 w5 eb4 sb4 fb4 cb4 => ?_)
 have zw5 := cb4.size
 refine wl_nil (q_n (k1 _ _ ?_))
 refine sx_seq fun K6 k6 => sx_region ?_
 refine sx_alloc [.bool false, (.slice none 0 0), (.slice none 0 0)] rfl Try.zeroValue44 rfl (fun b7 w8 eb7 sb7 fb7 cb7 => ?_)
 have zw8 := cb7.size
 refine wl_nil (q_n (k6 _ _ ?_))
 refine sx_seq fun K9 k9 => sx_region ?_
 refine sx_pure rfl rfl rfl (px_field rfl xfld40x0) ?_
 have f10 := fb2.ext cb4
 have f11 := f10.ext cb7
 refine sx_pure rfl rfl rfl (px_load rfl (f11.loadA (vs := [.bool n1, v1]) (look_lit rfl) Try.isAgg24 Try.sizeOf24)) ?_
 have f12 := hv10.ext cb2
 have f13 := f12.ext cb4
 have f14 := f13.ext cb7
 refine sx_call rfl rfl Try.call38 (c_toSigned f14 (by omega)) (fun v15 w15 p15 => ?_)
 obtain ⟨s115, rfl, os1_15, c15⟩ := p15
 have zw15 := c15.size
 refine sx_pure rfl rfl rfl (px_field rfl xfld44x0) ?_
 have f17 := fb7.ext c15
 refine sx_store (vs := [.bool n1, s115]) rfl rfl f17 rfl Try.sizeOf28 (Nat.le_of_ble_eq_true rfl) (one_cons rfl (one_cons os1_15.one one_nil)) (fun w16 sw16 fw16 cw16 => ?_)
 have zw16 := cw16.size
 have gw16 : Blk w16 b7 [.bool n1, s115, (.slice none 0 0)] 44 := fw16
 refine wl_nil (q_n (k9 _ _ ?_))
 refine sx_seq fun K18 k18 => sx_region ?_
 refine sx_pure rfl rfl rfl (px_field rfl xfld40x1) ?_
 have f19 := f11.ext c15
 have f20 := f19.chg cw16 (by omega)
 refine sx_pure rfl rfl rfl (px_load rfl (f20.load1 rfl Try.isAgg22)) ?_
 have f21 := hd10.ext cb2
 have f22 := f21.ext cb4
 have f23 := f22.ext cb7
 have f24 := f23.ext c15
 have f25 := f24.chg cw16 (by omega)
 refine sx_call rfl rfl Try.call55 (c_toIntS f25 (by omega)) (fun v26 w26 p26 => ?_)
 obtain ⟨s26, rfl, os_26, c26⟩ := p26
 have zw26 := c26.size
 refine sx_pure rfl rfl rfl (px_field rfl xfld44x1) ?_
 have f28 := gw16.ext c26
 refine sx_store (vs := [v26]) rfl rfl f28 (cells_one os_26.one) Try.sizeOf22 (Nat.le_of_ble_eq_true rfl) (one_cons os_26.one one_nil) (fun w27 sw27 fw27 cw27 => ?_)
 have zw27 := cw27.size
 have gw27 : Blk w27 b7 [.bool n1, s115, v26] 44 := fw27
 refine wl_nil (q_n (k18 _ _ ?_))
 refine sx_seq fun K29 k29 => sx_region ?_
 refine sx_pure rfl rfl rfl (px_load rfl (gw27.loadA (vs := [.bool n1, s115, v26]) (look_lit rfl) Try.isAgg44 Try.sizeOf44)) ?_
 have f31 := fb4.ext cb7
 have f32 := f31.ext c15
 have f33 := f32.chg cw16 (by omega)
 have f34 := f33.ext c26
 have f35 := f34.chg cw27 (by omega)
 have f36 := os_26.chg cw27 (by omega)
 have f37 := os1_15.chg cw16 (by omega)
 have f38 := f37.ext c26
 have f39 := f38.chg cw27 (by omega)
 refine sx_store (vs := [.bool n1, s115, v26]) rfl rfl f35 rfl Try.sizeOf44 (Nat.le_of_ble_eq_true rfl) (one_cons rfl (one_cons f39.one (one_cons f36.one one_nil))) (fun w30 sw30 fw30 cw30 => ?_)
 have zw30 := cw30.size
 have gw30 : Blk w30 b4 [.bool n1, s115, v26] 44 := fw30
 refine wl_nil (q_n (k29 _ _ ?_))
 refine sx_retc ?_
 refine sx_ret1 Try.results19 ⟨_, rfl, gw30.loadA (vs := [.bool n1, s115, v26]) (look_lit rfl) Try.isAgg44 Try.sizeOf44⟩ ?_
 have q40 := Chg.step (l := 0) (h := 0) (Chg.zero (l := 0) (h := 0) (((cb2.t cb4).t cb7).t c15)) cw16 (by omega)
 have q41 := Chg.step (l := 0) (h := 0) q40 c26 (by omega)
 have q42 := Chg.step (l := 0) (h := 0) q41 cw27 (by omega)
 have q43 := Chg.step (l := 0) (h := 0) q42 cw30 (by omega)
 have f44 := f39.chg cw30 (by omega)
 have f45 := f36.chg cw30 (by omega)
 exact ⟨_, _, _, _, _, _, rfl, f44, f45, by omega, q43⟩

theorem c_sNatGcd {w : World} {va : Value} {lva uva : Nat} {m : Nat} {vb : Value} {lvb uvb : Nat} {n : Nat} (hva : Sl w lva uva va (dg m)) (hvb : Sl w lvb uvb vb (dg n)) (hbm : (dg m).length ≤ 50) (hbn : (dg n).length ≤ 50) :
  Ret Try.prog 86 [va, vb] w fun v w' => ∃ s, v = s ∧ Sl w' (0) (w'.heap.size) s (dg (Nat.gcd m n)) ∧ Chg 0 0 w w' := by
 have hva0 := hva.fit
 have hvb0 := hvb.fit
 refine sx_enter Try.func86 rfl Try.ntmps86 (Nat.le_of_ble_eq_true rfl) ?_
 refine sx_seq fun K1 k1 => sx_region ?_
 refine sa rfl rfl rfl rfl ?_
 refine wl_nil (q_n (k1 _ _ ?_))
 refine sx_seq fun K2 k2 => ?_
 refine sx_seq fun K3 k3 => sx_region ?_
 refine sm rfl rfl rfl rfl ?_
 refine sx_call rfl rfl Try.call84 (c_sNatOk hva0 (by omega)) (fun v4 w4 p4 => ?_)
 obtain ⟨rfl, c4⟩ := p4
 have zw4 := c4.size
 refine sx_pure rfl rfl rfl (px_notP rfl) ?_
 refine sm rfl rfl rfl rfl ?_
 have h61 : ¬ (¬ (NOk (dg m))) := fun h => h (NOk_dg (by omega))
 refine sx_tmpPF (t := 12) rfl h61 ?_
 refine sx_guardT rfl rfl rfl ?_
 refine sm rfl rfl rfl rfl ?_
 refine sx_guardT rfl rfl rfl ?_
 have f5 := hvb0.ext c4
 refine sx_call rfl rfl Try.call84 (c_sNatOk f5 (by omega)) (fun v6 w6 p6 => ?_)
 obtain ⟨rfl, c6⟩ := p6
 have zw6 := c6.size
 refine sx_guardT rfl rfl rfl ?_
 refine sx_pure rfl rfl rfl (px_notP rfl) ?_
 refine sx_pure rfl rfl rfl (px_pick rfl rfl) ?_
 refine wl_nil (q_n (k3 _ _ ?_))
 have h61x1 : ¬ (¬ (NOk (dg n))) := fun h => h (NOk_dg (by omega))
 refine sx_condPF rfl h61x1 ?_
 refine sx_skip ?_
 refine q_n (k2 _ _ ?_)
 refine sx_seq fun K7 k7 => sx_region ?_
 refine sx_lit0 rfl xelt22 (fun s8 ws8 ss8 fs8 cs8 => ?_)
 have zws8 := cs8.size
 refine sm rfl rfl rfl rfl ?_
 have f10 := hva0.ext c4
 have f11 := f10.ext c6
 have f12 := f11.ext cs8
 refine sx_append rfl xelt22 rfl rfl fs8 f12 one_int (by omega) (by first | omega | (simp only [List.length_nil]; omega)) (by unfold maxLen; first | omega | (simp only [List.length_nil]; omega)) (fun a9 w9 fw9 cw9 => ?_)
 have nw9 := Own.norm (f := (Value.int .i64)) (zs := dg m) fw9
 have zw9 := cw9.size
 refine sa rfl rfl rfl rfl ?_
 refine wl_nil (q_n (k7 _ _ ?_))
 refine sx_sub (Sub.cons (t := 1) rfl (.cons (t := 4) rfl (.cons (t := 5) rfl (.nil)))) ?_
 refine sx_seq fun K13 k13 => sx_region ?_
 refine sx_lit0 rfl xelt22 (fun s14 ws14 ss14 fs14 cs14 => ?_)
 have zws14 := cs14.size
 refine sm rfl rfl rfl rfl ?_
 have f16 := f5.ext c6
 have f17 := f16.ext cs8
 have f18 := f17.chg cw9 (by omega)
 have f19 := f18.ext cs14
 refine sx_append rfl xelt22 rfl rfl fs14 f19 one_int (by omega) (by first | omega | (simp only [List.length_nil]; omega)) (by unfold maxLen; first | omega | (simp only [List.length_nil]; omega)) (fun a15 w15 fw15 cw15 => ?_)
 have nw15 := Own.norm (f := (Value.int .i64)) (zs := dg n) fw15
 have zw15 := cw15.size
 refine sa rfl rfl rfl rfl ?_
 refine wl_nil (q_n (k13 _ _ ?_))
 refine sx_seq fun K20 k20 => ?_
 refine sx_block ?_
 have f22 := nw9.ext cs14
 have f23 := f22.chg cw15 (by omega)
 refine sx_loop (fun mm aa w' => ∃ (xa : Value) (xb : Value) (m2 : Nat) (n2 : Nat), Agr 35 [(5, xa), (6, xb)] aa ∧ Chg 0 0 w15 w' ∧ Sv w' 0 w'.heap.size xa ((dg m2).length) 1 ((dg m2).map (Value.int .i64)) ∧ Sv w' 0 w'.heap.size xb ((dg n2).length) 1 ((dg n2).map (Value.int .i64)) ∧ (mm = n2) ∧ (Nat.gcd m2 n2 = Nat.gcd m n) ∧ ((dg m2).length ≤ 400 ∧ (dg n2).length ≤ 400)) (_) (fun a ha => ⟨a9, a15, m, n, ha.sub (Sub.cons (t := 5) rfl (.cons (t := 6) rfl (.nil))), Chg.refl _ _ _, (f23.sv.mono (by omega) (by omega)), (nw15.sv.mono (by omega) (by omega)), rfl, rfl, by omega⟩) ?_
 rintro mm aa wl21 ⟨xa, xb, m2, n2, hAwl21, cwl21, hs_xa, hs_xb, hm, hg, hl2⟩
 refine (show cw Try.prog 35 _ _ _ wl21 from ?_) aa hAwl21
 clear hAwl21
 have zwl21 := cwl21.size
 refine sx_seq fun K24 k24 => ?_
 refine sx_seq fun K25 k25 => sx_region ?_
 refine sm rfl rfl rfl rfl ?_
 refine sx_pure rfl rfl rfl (px_len rfl Try.underlying22 hs_xb) ?_
 refine sx_pure rfl rfl rfl (px_gt rfl rfl) ?_
 refine wl_nil (q_n (k25 _ _ ?_))
 refine sx_condP rfl (fun h66 => ?_) (fun h66 => ?_)
 ·
  have hn0 : 0 < n2 := len_pos.1 (by omega)
  refine sx_skip ?_
  refine q_n (k24 _ _ ?_)
  refine sx_block ?_
  refine sx_seq fun K26 k26 => sx_region ?_
  refine sm rfl rfl rfl rfl ?_
  refine sm rfl rfl rfl rfl ?_
  refine sx_call rfl rfl Try.call51 (c_l03Div hs_xa hs_xb (by omega) (by omega) (by omega)) (fun v27 w27 p27 => ?_)
  obtain ⟨s27, t27, rfl, os_27, ot_27, c27⟩ := p27
  have zw27 := c27.size
  refine sm rfl rfl rfl rfl ?_
  refine sx_pure rfl rfl rfl (px_extract (vs := [s27, t27]) rfl rfl) ?_
  refine sx_pure rfl rfl rfl (px_extract (vs := [s27, t27]) rfl rfl) ?_
  refine sa rfl rfl rfl rfl ?_
  refine sa rfl rfl rfl rfl ?_
  refine wl_nil (q_n (k26 _ _ ?_))
  refine sx_seq fun K28 k28 => sx_region ?_
  refine sm rfl rfl rfl rfl ?_
  refine sa rfl rfl rfl rfl ?_
  refine wl_nil (q_n (k28 _ _ ?_))
  refine sx_region ?_
  refine sm rfl rfl rfl rfl ?_
  refine sa rfl rfl rfl rfl ?_
  refine wl_nil ?_
  have f29 := hs_xb.ext c27
  have hml := Nat.mod_lt m2 hn0
  have hll := len_mod (m := m2) hn0
  exact q_bn (fun a ha => ⟨_, by omega, xb, t27, n2, (m2 % n2), ha.sub (Sub.cons (t := 5) rfl (.cons (t := 6) rfl (.nil))), (cwl21.t c27), (f29.mono (by omega) (by omega)), (ot_27.mono (by omega) (by omega)), rfl, gcd_next.trans hg, by omega⟩)
 ·
  refine sx_exit ?_
  refine q_e (q_e (q_bx (q_n (k20 _ _ ?_))))
  refine sx_seq fun K30 k30 => sx_region ?_
  refine sm rfl rfl rfl rfl ?_
  refine sa rfl rfl rfl rfl ?_
  refine wl_nil (q_n (k30 _ _ ?_))
  refine sx_retc ?_
  refine sx_ret1 Try.results86 rfl ?_
  have e0 : n2 = 0 := len_zero.1 (by omega)
  subst e0
  rw [Nat.gcd_zero_right] at hg
  rw [← hg]
  have q31 := Chg.step (l := 0) (h := 0) (Chg.zero (l := 0) (h := 0) ((c4.t c6).t cs8)) cw9 (by omega)
  have q32 := Chg.step (l := 0) (h := 0) q31 cs14 (by omega)
  have q33 := Chg.step (l := 0) (h := 0) q32 cw15 (by omega)
  have q34 := Chg.step (l := 0) (h := 0) q33 cwl21 (by omega)
  exact ⟨_, rfl, (Sv.mono hs_xa (by omega) (by omega)), q34⟩

end Go.Proofs.Ytfoceofnldnbgaa
