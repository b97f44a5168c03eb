/- Contracts of functions of the program: what each call returns, and that it changes nothing that was. Conditions: as each says. -/
import Derived.Test.YtcghgfmickgnkaaGreatDoorTy
import Derived.Test.YtcghgfmickgnkaaGreatDoorNatP
import Derived.Test.YtcghgfmickgnkaaGreatDoorSxD
import Derived.Test.YtcghgfmickgnkaaGreatDoorPair
import Derived.Test.YtcghgfmickgnkaaGreatDoorSxP
import Derived.Test.YtcghgfmickgnkaaGreatDoorRm
import Derived.Test.YtcghgfmickgnkaaGreatDoorL0
set_option linter.unusedVariables false
set_option linter.unusedSimpArgs false
namespace Go.Proofs.YtcghgfmickgnkaaGreatDoor
open Go Go.RowKit
set_option maxRecDepth 100000
theorem c_l03Div {w : World} {va : Value} {lva uva : Nat} {m : Nat} {vb : Value} {lvb uvb : Nat} {n : Nat} (hva : Sl w lva uva va (dg m)) (hvb : Sl w lvb uvb vb (dg n)) (hbm : (dg m).length ≤ 400) (hbn : (dg n).length ≤ 400) (hn0 : 0 < n) :
  Ret Tryz.prog 115 [va, vb] w fun v w' => ∃ s t, v = .tuple #[s, t] ∧ Sl w' (w.heap.size) (w'.heap.size) s (dg (m / n)) ∧ Sl w' (w.heap.size) (w'.heap.size) t (dg (m % n)) ∧ Chg 0 0 w w' := by
 have hva0 := hva.fit
 have hvb0 := hvb.fit
 refine sx_enter Tryz.func115 rfl Tryz.ntmps115 (nbl rfl) ?_
 refine sx_seq fun K1 k1 => sx_region ?_
 refine av rfl rfl (av rfl rfl (wl_nil (q_n (k1 _ _ ?_))))
 refine sx_seq fun K2 k2 => ?_
 refine sx_seq fun K3 k3 => sx_region ?_
 refine mv rfl rfl (sp rfl (px_len rfl Tryz.underlying26 hvb0) ?_)
 refine sp rfl (px_eq rfl rfl) ?_
 refine wl_nil (q_n (k3 _ _ ?_))
 refine sx_condP rfl (fun h33 => ?_) (fun h33 => ?_)
 ·
  refine sx_seq fun K4 k4 => sx_region ?_
  refine mv rfl rfl (mv rfl rfl (sp rfl (px_index1 (j := 0) rfl rfl (by omega) Tryz.underlying26 Tryz.sizeOf3 hvb0 (by omega)) ?_))
  refine sp rfl (px_load rfl (hvb0.load1 (at_int (by omega)) Tryz.isAgg3)) ?_
  refine sx_call rfl rfl Tryz.call140 (c_l03Small hva0 (by omega) (by have h9 := one_limb (n := n) (by omega); omega)) (fun v5 w5 p5 => ?_)
  obtain ⟨s5, rfl, os_5, c5⟩ := p5
  have zw5 := c5.size
  refine mv rfl rfl (sp rfl (px_ex2 rfl rfl) ?_)
  refine sp rfl (px_ex2 rfl rfl) ?_
  refine av rfl rfl (av rfl rfl (wl_nil (q_n (k4 _ _ ?_))))
  refine sx_sub (Sub.c 0 rfl (.c 1 rfl (.c 4 rfl (.c 5 rfl (.c 6 rfl (.c 7 rfl .nil)))))) ?_
  refine sx_seq fun K6 k6 => sx_region ?_
  refine mv rfl rfl (mv rfl rfl (sx_call rfl rfl Tryz.call71 (c_sNatOf (by have h9 := one_limb (n := n) (by omega); have h8 := Nat.mod_lt m (show 0 < ((dg n).getD 0 0).toNat by omega); omega)) (fun v7 w7 p7 => ?_)))
  obtain ⟨s7, rfl, os_7, c7⟩ := p7
  have zw7 := c7.size
  refine av rfl rfl (av rfl rfl (wl_nil (q_n (k6 _ _ ?_))))
  refine sx_retc ?_
  refine q_r (sx_ret2 Tryz.results115 rfl rfl ?_)
  have e1 := (one_limb (n := n) (by omega)).1
  have f8 := os_5.ext c7
  have r1 := f8
  have r2 := os_7
  rw [Int.toNat_natCast] at r2
  rw [e1] at r1 r2
  exact ⟨_, _, rfl, r1.sv.mono (by omega) (by omega), r2.sv.mono (by omega) (by omega), (c5.t c7)⟩
 refine sx_skip ?_
 refine q_n (k2 _ _ ?_)
 refine sx_seq fun K9 k9 => sx_region ?_
 refine mv rfl rfl (sp rfl (px_len rfl Tryz.underlying26 hva0) ?_)
 refine sx_make (c := (dg m).length) rfl xelt26 (rfl) (rfl) (by omega) (by unfold maxLen; omega) (fun s10 ws10 fs10 cs10 ls10 => ?_)
 have ns10 := fs10.made
 have zws10 := cs10.size
 refine av rfl rfl (wl_nil (q_n (k9 _ _ ?_)))
 refine sx_seq fun K11 k11 => sx_region ?_
 refine sx_lit0 rfl xelt26 (fun s12 ws12 ss12 fs12 cs12 => ?_)
 have zws12 := cs12.size
 refine av rfl rfl (wl_nil (q_n (k11 _ _ ?_)))
 refine sx_seq fun K13 k13 => ?_
 refine sx_seq fun K14 k14 => sx_region ?_
 refine mv rfl rfl ?_
 have f15 := hva0.ext cs10
 have f16 := f15.ext cs12
 refine sp rfl (px_len rfl Tryz.underlying26 f16) ?_
 refine sp rfl (px_sub rfl rfl (by omega)) ?_
 refine av rfl rfl (wl_nil (q_n (k14 _ _ ?_)))
 refine sx_sub (Sub.c 0 rfl (.c 1 rfl (.c 4 rfl (.c 5 rfl (.c 8 rfl (.c 9 rfl (.c 10 rfl .nil))))))) ?_
 refine sx_block ?_
 have f18 := ns10.ext cs12
 refine sx_loop (fun mm aa w' => ∃ (k : Nat) (os : List Int) (rs : Value) (R : Nat), Agr 65 [(0, va), (1, vb), (8, s10), (9, rs), (10, .int .i64 (↑k - 1))] aa ∧ Chg w.heap.size ws10.heap.size ws12 w' ∧ Own w' w.heap.size ws10.heap.size s10 intT os.length 1 (os.map (Value.int .i64)) ∧ Sv w' ws10.heap.size w'.heap.size rs ((dg R).length) 1 ((dg R).map (Value.int .i64)) ∧ (mm = k) ∧ (k ≤ (dg m).length) ∧ (os.length = (dg m).length) ∧ (Lm os) ∧ (∀ i, i < k → os.getD i 0 = 0) ∧ (R < n) ∧ ((dg R).length ≤ (dg n).length) ∧ (vl ((dg m).drop k) = n * vl (os.drop k) + R)) (_) (fun a ha => ⟨(dg m).length, List.replicate (dg m).length 0, s12, 0, ha.sub (Sub.c 0 rfl (.c 1 rfl (.c 8 rfl (.c 9 rfl (.c 10 (look_int (t := 10) rfl (by first | omega | simp)) .nil))))), Chg.refl _ _ _, f18, (by rw [dg_zero]; exact (fs12.sv).mono (by omega) (by omega)), rfl, by omega, by simp, Lm.replicate _, zero_rep' _ _, by omega, by rw [dg_zero]; simp, by simp [vl]⟩) ?_
 rintro mm aa wl17 ⟨k, os, rs, R, hAwl17, cwl17, hs_s10, hs_rs, hm, hk, hos, hlm, hz, hR, hlR, hv⟩
 refine (show cw Tryz.prog 65 _ _ _ wl17 from ?_) aa hAwl17
 clear hAwl17
 have zwl17 := cwl17.size
 have am := (Lm_dg m).getD (k - 1)
 have hzl : Lm ([(dg m).getD (k - 1) 0] ++ dg R) := (Lm.single am.1 am.2).append (Lm_dg R)
 have eV := head_vl ((dg m).getD (k - 1) 0) R
 have lX := len_lt_mul (X := vl ([(dg m).getD (k - 1) 0] ++ dg R)) (n := n) (by omega)
 have hqq := q_limb eV (by omega) hR
 have hqn : (0 : Int) ≤ ((vl ([(dg m).getD (k - 1) 0] ++ dg R) / n : Nat) : Int) := Int.natCast_nonneg _
 have lq := len_u64 (n := ((vl ([(dg m).getD (k - 1) 0] ++ dg R) / n : Nat) : Int)) (by omega)
 have lm := len_mul n (((vl ([(dg m).getD (k - 1) 0] ++ dg R) / n : Nat) : Int)).toNat
 have hme := Nat.mul_div_le (vl ([(dg m).getD (k - 1) 0] ++ dg R)) n
 refine sx_seq fun K19 k19 => ?_
 refine sx_seq fun K20 k20 => sx_region ?_
 refine mv rfl rfl (sp rfl (px_ge rfl rfl) ?_)
 refine wl_nil (q_n (k20 _ _ ?_))
 refine sx_condP rfl (fun h39 => ?_) (fun h39 => ?_)
 ·
  refine sx_skip ?_
  refine q_n (k19 _ _ ?_)
  refine sx_seq fun K21 k21 => ?_
  refine sx_block ?_
  refine sx_seq fun K22 k22 => sx_region ?_
  refine mv rfl rfl (mv rfl rfl ?_)
  have f23 := f16.chg cwl17 (by omega)
  refine sp rfl (px_index1 (j := (k - 1)) rfl rfl (by omega) Tryz.underlying26 Tryz.sizeOf3 f23 (by omega)) ?_
  refine sp rfl (px_load rfl (f23.load1 (at_int (by omega)) Tryz.isAgg3)) ?_
  refine sx_lit1 rfl xelt26 rfl rfl (fun s24 ws24 ss24 fs24 cs24 => ?_)
  have ns24 := Own.norm (f := (Value.int .i64)) (zs := [(dg m).getD (k - 1) 0]) fs24
  have zws24 := cs24.size
  refine mv rfl rfl ?_
  have f26 := hs_rs.ext cs24
  refine sx_append rfl xelt26 rfl rfl ns24 f26 one_int (by omega) (by simp only [List.length_cons, List.length_nil]; omega) (by unfold maxLen; simp only [List.length_cons, List.length_nil]; omega) (fun a25 w25 fw25 cw25 => ?_)
  have nw25 := Own.app (f := (Value.int .i64)) (a := [(dg m).getD (k - 1) 0]) (b := dg R) fw25
  have zw25 := cw25.size
  refine sx_call rfl rfl Tryz.call113 (c_l02Trim nw25 (by assumption) (by first | omega | (simp only [List.length_append, List.length_set, List.length_replicate, List.length_cons, List.length_nil] at *; omega))) (fun v27 w27 p27 => ?_)
  obtain ⟨s27, rfl, os_27, c27⟩ := p27
  have zw27 := c27.size
  refine av rfl rfl (wl_nil (q_n (k22 _ _ ?_)))
  refine sx_sub (Sub.c 0 rfl (.c 1 rfl (.c 8 rfl (.c 9 rfl (.c 10 rfl .nil))))) ?_
  refine sx_seq fun K28 k28 => ?_
  refine sx_seq fun K29 k29 => sx_region ?_
  refine mv rfl rfl (mv rfl rfl ?_)
  have f30 := hvb0.ext cs10
  have f31 := f30.ext cs12
  have f32 := f31.chg cwl17 (by omega)
  have f33 := f32.ext cs24
  have f34 := f33.chg cw25 (by omega)
  have f35 := f34.ext c27
  refine sx_call rfl rfl Tryz.call111 (c_l02Cmp os_27.sv f35 (by omega)) (fun v36 w36 p36 => ?_)
  obtain ⟨rfl, c36⟩ := p36
  have zw36 := c36.size
  refine sp rfl (px_lt rfl rfl) ?_
  refine wl_nil (q_n (k29 _ _ ?_))
  refine sx_condP rfl (fun h41 => ?_) (fun h41 => ?_)
  ·
   rw [cmpL_dg] at h41
   have hlt := cmpN_neg.1 h41
   refine sx_exit ?_
   refine q_e (q_bx (q_n (k21 _ _ ?_)))
   refine sx_region ?_
   refine mv rfl rfl (sp rfl (px_sub rfl rfl (by omega)) ?_)
   refine av rfl rfl (wl_nil ?_)
   have q37 := Chg.step (l := w.heap.size) (h := ws10.heap.size) cwl17 cs24 (by omega)
   have q38 := Chg.step (l := w.heap.size) (h := ws10.heap.size) q37 cw25 (by omega)
   have q39 := Chg.step (l := w.heap.size) (h := ws10.heap.size) q38 (c27.t c36) (by omega)
   have f40 := hs_s10.ext cs24
   have f41 := f40.chg cw25 (by omega)
   have f43 := (f41.ext c27).ext c36
   have f44 := os_27.ext c36
   exact fun a ha => ⟨_, by omega, (k - 1), os, v27, (vl (([(dg m).getD (k - 1) 0]) ++ (dg R))), ha.sub (Sub.c 0 rfl (.c 1 rfl (.c 8 rfl (.c 9 rfl (.c 10 (look_int (t := 10) rfl (by first | omega | simp)) .nil))))), q39, (f43.mono (by omega) (by omega)), (f44.sv.mono (by omega) (by omega)), rfl, by omega, by simpa using hos, hlm, fun i hi => hz i (by omega), by omega, by have h9 := len_le (m := (vl (([(dg m).getD (k - 1) 0]) ++ (dg R)))) (n := n) (by have h8 := sub_mod (X := vl ([(dg m).getD (k - 1) 0] ++ dg R)) hn0; omega); omega, down_step (by omega) (by omega) (by omega) (hz _ (by omega)) eV hv⟩
  rw [cmpL_dg] at h41
  have hge := Nat.le_of_not_lt (mt cmpN_neg.2 h41)
  refine sx_skip ?_
  refine q_n (k28 _ _ ?_)
  refine sx_seq fun K45 k45 => sx_region ?_
  refine mv rfl rfl (mv rfl rfl ?_)
  have f46 := os_27.ext c36
  have f47 := f35.ext c36
  refine sx_call rfl rfl Tryz.call141 (c_l03Digit f46.sv f47 (by omega) (by omega) (by omega)) (fun v48 w48 p48 => ?_)
  obtain ⟨rfl, c48⟩ := p48
  have zw48 := c48.size
  refine av rfl rfl (wl_nil (q_n (k45 _ _ ?_)))
  refine sx_seq fun K49 k49 => sx_region ?_
  refine mv rfl rfl (mv rfl rfl (mv rfl rfl ?_))
  have f50 := hs_s10.ext cs24
  have f51 := f50.chg cw25 (by omega)
  have f54 := ((f51.ext c27).ext c36).ext c48
  refine sp rfl (px_index1 (j := (k - 1)) rfl rfl (by omega) Tryz.underlying26 Tryz.sizeOf3 f54.sv (by omega)) ?_
  refine sx_storeO rfl rfl f54 (by first | omega | (simp only [List.length_map]; omega)) Tryz.sizeOf3 rfl (fun w55 sw55 fw55 cw55 => ?_)
  have zw55 := cw55.size
  have nw55 := fw55.set
  refine wl_nil (q_n (k49 _ _ ?_))
  refine sx_sub (Sub.c 0 rfl (.c 1 rfl (.c 8 rfl (.c 9 rfl (.c 10 rfl (.c 11 rfl .nil)))))) ?_
  refine sx_region ?_
  refine mv rfl rfl (mv rfl rfl (mv rfl rfl (sx_call rfl rfl Tryz.call71 (c_sNatOf (by omega)) (fun v56 w56 p56 => ?_))))
  obtain ⟨s56, rfl, os_56, c56⟩ := p56
  have zw56 := c56.size
  have f58 := (f47.ext c48).chg cw55 (by omega)
  have f59 := f58.ext c56
  refine sx_call rfl rfl Tryz.call76 (c_l02Mul f59 os_56.sv (by omega) (by omega)) (fun v60 w60 p60 => ?_)
  obtain ⟨s60, rfl, os_60, c60⟩ := p60
  have zw60 := c60.size
  have f62 := (f46.ext c48).chg cw55 (by omega)
  have f64 := (f62.ext c56).ext c60
  refine sx_call rfl rfl Tryz.call142 (c_l02Sub f64.sv os_60 (by omega) (by omega) (by rw [Int.toNat_natCast]; exact hme)) (fun v65 w65 p65 => ?_)
  obtain ⟨s65, rfl, os_65, c65⟩ := p65
  have zw65 := c65.size
  refine av rfl rfl (wl_nil ?_)
  refine q_bn (q_n (k21 _ _ ?_))
  refine sx_region ?_
  refine mv rfl rfl (sp rfl (px_sub rfl rfl (by omega)) ?_)
  refine av rfl rfl (wl_nil ?_)
  have q66 := Chg.step (l := w.heap.size) (h := ws10.heap.size) cwl17 cs24 (by omega)
  have q67 := Chg.step (l := w.heap.size) (h := ws10.heap.size) q66 cw25 (by omega)
  have q68 := Chg.step (l := w.heap.size) (h := ws10.heap.size) q67 ((c27.t c36).t c48) (by omega)
  have q69 := Chg.step (l := w.heap.size) (h := ws10.heap.size) q68 cw55 (by omega)
  have q70 := Chg.step (l := w.heap.size) (h := ws10.heap.size) q69 ((c56.t c60).t c65) (by omega)
  have f73 := ((nw55.ext c56).ext c60).ext c65
  exact fun a ha => ⟨_, by omega, (k - 1), ((os).set (k - 1) (((vl (([(dg m).getD (k - 1) 0]) ++ (dg R))) / n : Nat) : Int)), v65, ((vl (([(dg m).getD (k - 1) 0]) ++ (dg R))) - (n * (((((vl (([(dg m).getD (k - 1) 0]) ++ (dg R))) / n : Nat) : Int)).toNat))), ha.sub (Sub.c 0 rfl (.c 1 rfl (.c 8 rfl (.c 9 rfl (.c 10 (look_int (t := 10) rfl (by first | omega | simp)) .nil))))), q70, (f73.mono (by omega) (by omega)), (os_65.mono (by omega) (by omega)), rfl, by omega, by simpa using hos, hlm.set _ (by omega) (by omega), zero_below hz, sub_mod hn0, by have h9 := len_le (m := ((vl (([(dg m).getD (k - 1) 0]) ++ (dg R))) - (n * (((((vl (([(dg m).getD (k - 1) 0]) ++ (dg R))) / n : Nat) : Int)).toNat)))) (n := n) (by have h8 := sub_mod (X := vl ([(dg m).getD (k - 1) 0] ++ dg R)) hn0; omega); omega, div_step (by omega) (by omega) (by omega) eV hn0 hv⟩
 refine sx_exit ?_
 refine q_e (q_e (q_bx (q_n (k13 _ _ ?_))))
 refine sx_seq fun K74 k74 => sx_region ?_
 refine mv rfl rfl (sx_call rfl rfl Tryz.call113 (c_l02Trim hs_s10 (by assumption) (by first | omega | (simp only [List.length_append, List.length_set, List.length_replicate, List.length_cons, List.length_nil] at *; omega))) (fun v75 w75 p75 => ?_))
 obtain ⟨s75, rfl, os_75, c75⟩ := p75
 have zw75 := c75.size
 refine mv rfl rfl (av rfl rfl (av rfl rfl (wl_nil (q_n (k74 _ _ ?_)))))
 refine sx_retc ?_
 refine sx_ret2 Tryz.results115 rfl rfl ?_
 have e0 : k = 0 := by omega
 subst e0
 have he := div_end (m := m) (d := n) (v := vl os) (r := R) (by rw [List.drop_zero, List.drop_zero, vl_dg] at hv; exact hv) hR
 have r1 := os_75
 have f76 := hs_rs.ext c75
 have r2 := f76
 rw [he.1] at r1
 rw [he.2] at r2
 have q77 := Chg.step (l := 0) (h := 0) (Chg.zero (l := 0) (h := 0) (cs10.t cs12)) cwl17 (by omega)
 have q78 := Chg.step (l := 0) (h := 0) q77 c75 (by omega)
 exact ⟨_, _, rfl, r1.sv.mono (by omega) (by omega), r2.mono (by omega) (by omega), q78⟩

theorem c_l05Gcd {w : World} {va : Value} {lva uva : Nat} {m : Nat} {vb : Value} {lvb uvb : Nat} {n : Nat} (hva : Sl w lva uva va (dg m)) (hvb : Sl w lvb uvb vb (dg n)) (hbm : (dg m).length ≤ 400) (hbn : (dg n).length ≤ 400) :
  Ret Tryz.prog 114 [va, vb] w fun v w' => ∃ s, v = s ∧ Sl w' (0) (w'.heap.size) s (dg (Nat.gcd m n)) ∧ Chg 0 0 w w' := by
 have hva0 := hva.fit
 have hvb0 := hvb.fit
 refine sx_enter Tryz.func114 rfl Tryz.ntmps114 (nbl rfl) ?_
 refine sx_seq fun K1 k1 => sx_region ?_
 refine av rfl rfl (wl_nil (q_n (k1 _ _ ?_)))
 refine sx_seq fun K2 k2 => sx_region ?_
 refine mv rfl rfl (av rfl rfl (wl_nil (q_n (k2 _ _ ?_))))
 refine sx_seq fun K3 k3 => sx_region ?_
 refine mv rfl rfl (av rfl rfl (wl_nil (q_n (k3 _ _ ?_))))
 refine sx_seq fun K4 k4 => ?_
 refine sx_block ?_
 refine sx_loop (fun mm aa w' => ∃ (xa : Value) (xb : Value) (m2 : Nat) (n2 : Nat), Agr 23 [(5, xa), (6, xb)] aa ∧ Chg 0 0 w w' ∧ Sv w' 0 w'.heap.size xa ((dg m2).length) 1 ((dg m2).map (Value.int .i64)) ∧ Sv w' 0 w'.heap.size xb ((dg n2).length) 1 ((dg n2).map (Value.int .i64)) ∧ (mm = n2) ∧ (Nat.gcd m2 n2 = Nat.gcd m n) ∧ ((dg m2).length ≤ 400 ∧ (dg n2).length ≤ 400)) (_) (fun a ha => ⟨va, vb, m, n, ha.sub (Sub.c 5 rfl (.c 6 rfl .nil)), Chg.refl _ _ _, (hva0.mono (by omega) (by omega)), (hvb0.mono (by omega) (by omega)), rfl, rfl, by omega⟩) ?_
 rintro mm aa wl5 ⟨xa, xb, m2, n2, hAwl5, cwl5, hs_xa, hs_xb, hm, hg, hl2⟩
 refine (show cw Tryz.prog 23 _ _ _ wl5 from ?_) aa hAwl5
 clear hAwl5
 have zwl5 := cwl5.size
 refine sx_seq fun K6 k6 => ?_
 refine sx_seq fun K7 k7 => sx_region ?_
 refine mv rfl rfl (sp rfl (px_len rfl Tryz.underlying26 hs_xb) ?_)
 refine sp rfl (px_gt rfl rfl) ?_
 refine wl_nil (q_n (k7 _ _ ?_))
 refine sx_condP rfl (fun h32 => ?_) (fun h32 => ?_)
 ·
  have hn0 : 0 < n2 := len_pos.1 (by omega)
  refine sx_skip ?_
  refine q_n (k6 _ _ ?_)
  refine sx_block ?_
  refine sx_seq fun K8 k8 => sx_region ?_
  refine mv rfl rfl (mv rfl rfl (sx_call rfl rfl Tryz.call115 (c_l03Div hs_xa hs_xb (by omega) (by omega) (by omega)) (fun v9 w9 p9 => ?_)))
  obtain ⟨s9, t9, rfl, os_9, ot_9, c9⟩ := p9
  have zw9 := c9.size
  refine mv rfl rfl (sp rfl (px_ex2 rfl rfl) ?_)
  refine sp rfl (px_ex2 rfl rfl) ?_
  refine av rfl rfl (av rfl rfl (wl_nil (q_n (k8 _ _ ?_))))
  refine sx_seq fun K10 k10 => sx_region ?_
  refine mv rfl rfl (av rfl rfl (wl_nil (q_n (k10 _ _ ?_))))
  refine sx_region ?_
  refine mv rfl rfl (av rfl rfl (wl_nil ?_))
  have f11 := hs_xb.ext c9
  have hml := Nat.mod_lt m2 hn0
  have hll := len_mod (m := m2) hn0
  exact q_bn (fun a ha => ⟨_, by omega, xb, t9, n2, (m2 % n2), ha.sub (Sub.c 5 rfl (.c 6 rfl .nil)), (cwl5.t c9), (f11.mono (by omega) (by omega)), (ot_9.mono (by omega) (by omega)), rfl, gcd_next.trans hg, by omega⟩)
 refine sx_exit ?_
 refine q_e (q_e (q_bx (q_n (k4 _ _ ?_))))
 refine sx_seq fun K12 k12 => sx_region ?_
 refine mv rfl rfl (av rfl rfl (wl_nil (q_n (k12 _ _ ?_))))
 refine sx_retc ?_
 refine sx_ret1 Tryz.results114 rfl ?_
 have e0 : n2 = 0 := len_zero.1 (by omega)
 subst e0
 rw [Nat.gcd_zero_right] at hg
 rw [← hg]
 exact ⟨_, rfl, (Sv.mono hs_xa (by omega) (by omega)), cwl5⟩

theorem c_l05Low {w : World} {n : Bool} {va : Value} {lva uva : Nat} {m : Nat} {vb : Value} {lvb uvb : Nat} {d : Nat} (hva : Sl w lva uva va (dg m)) (hvb : Sl w lvb uvb vb (dg d)) (hbm : (dg m).length ≤ 400) (hbd : (dg d).length ≤ 400) :
  Ret Tryz.prog 75 [.bool n, va, vb] w fun v w' => ∃ s t ls us lt ut, v = .tuple #[.agg #[.bool ((rR (sgI n m) d).1), s, t], .bool ((rR (sgI n m) d).2.2.2)] ∧ OwnI w' (ls) (us) s intT ((rR (sgI n m) d).2.1) ∧ OwnI w' (lt) (ut) t intT ((rR (sgI n m) d).2.2.1) ∧ (w.heap.size ≤ ls ∧ us ≤ w'.heap.size ∧ w.heap.size ≤ lt ∧ ut ≤ w'.heap.size ∧ (us ≤ lt ∨ ut ≤ ls)) ∧ ((rR (sgI n m) d).2.1.length ≤ 18 ∧ (rR (sgI n m) d).2.2.1.length ≤ 18) ∧ Chg 0 0 w w' := by
 have hva0 := hva.fit
 have hvb0 := hvb.fit
 refine sx_enter Tryz.func75 rfl Tryz.ntmps75 (nbl rfl) ?_
 refine sx_seq fun K1 k1 => sx_region ?_
 refine sx_alloc [.bool false, (.slice none 0 0), (.slice none 0 0)] rfl Tryz.zeroValue30 rfl (fun b2 w3 eb2 sb2 fb2 cb2 => ?_)
 have zw3 := cb2.size
 refine av rfl rfl (wl_nil (q_n (k1 _ _ ?_)))
 refine sx_seq fun K4 k4 => sx_region ?_
 refine mv rfl rfl ?_
 have f5 := hva0.ext cb2
 refine sx_call rfl rfl Tryz.call113 (c_l02TrimD f5 (by omega)) (fun v6 w6 p6 => ?_)
 obtain ⟨s6, rfl, os_6, c6⟩ := p6
 have zw6 := c6.size
 refine av rfl rfl (wl_nil (q_n (k4 _ _ ?_)))
 refine sx_seq fun K7 k7 => sx_region ?_
 refine mv rfl rfl ?_
 have f8 := hvb0.ext cb2
 have f9 := f8.ext c6
 refine sx_call rfl rfl Tryz.call113 (c_l02TrimD f9 (by omega)) (fun v10 w10 p10 => ?_)
 obtain ⟨s10, rfl, os_10, c10⟩ := p10
 have zw10 := c10.size
 refine av rfl rfl (wl_nil (q_n (k7 _ _ ?_)))
 refine sx_seq fun K11 k11 => ?_
 refine sx_seq fun K12 k12 => sx_region ?_
 refine mv rfl rfl (sp rfl (px_len rfl Tryz.underlying26 os_10) ?_)
 refine sp rfl (px_eq rfl rfl) ?_
 refine wl_nil (q_n (k12 _ _ ?_))
 refine sx_condP rfl (fun h17 => ?_) (fun h17 => ?_)
 ·
  refine sx_seq fun K13 k13 => sx_region ?_
  refine sp rfl (px_build rfl (xbld30x  _)) ?_
  have f16 := (fb2.ext c6).ext c10
  refine sx_store (vs := [.bool false, (.slice none 0 0), (.slice none 0 0)]) rfl rfl f16 rfl Tryz.sizeOf30 (nbl rfl) (o3 rfl rfl rfl) (fun w14 sw14 fw14 cw14 => ?_)
  have zw14 := cw14.size
  have gw14 : Blk w14 b2 [.bool false, (.slice none 0 0), (.slice none 0 0)] 30 := fw14
  refine av rfl rfl (wl_nil (q_n (k13 _ _ ?_)))
  refine sx_sub (Sub.c 0 rfl (.c 6 rfl (.c 7 rfl (.c 8 rfl (.c 9 rfl .nil))))) ?_
  refine sx_retc ?_
  refine q_r (sx_ret2 Tryz.results75 ⟨_, rfl, gw14.loadA (vs := [.bool false, (.slice none 0 0), (.slice none 0 0)]) (look_lit rfl) Tryz.isAgg30 Tryz.sizeOf30⟩ rfl ?_)
  rw [rR_zero (len_zero.1 (by omega))]
  have q17 := Chg.step (l := 0) (h := 0) (Chg.zero (l := 0) (h := 0) ((cb2.t c6).t c10)) cw14 (by omega)
  exact ⟨_, _, w.heap.size, w.heap.size, w.heap.size, w.heap.size, rfl, Own.nil _ _ _ _ _, Own.nil _ _ _ _ _, by omega, ⟨by simp [noR], by simp [noR]⟩, q17⟩
 have hd0 : 0 < d := len_pos.1 (by omega)
 have hgp := gcd_pos_r (m := m) hd0
 have lg := gcd_le_left (m := m) (n := d) (k := max (dg m).length (dg d).length) (by omega) (by omega)
 have lq1 := len_div m (Nat.gcd m d)
 have lq2 := len_div d (Nat.gcd m d)
 refine sx_skip ?_
 refine q_n (k11 _ _ ?_)
 refine sx_seq fun K18 k18 => sx_region ?_
 refine mv rfl rfl (mv rfl rfl ?_)
 have f19 := os_6.ext c10
 refine sx_call rfl rfl Tryz.call114 (c_l05Gcd f19 os_10 (by omega) (by omega)) (fun v20 w20 p20 => ?_)
 obtain ⟨s20, rfl, os_20, c20⟩ := p20
 have zw20 := c20.size
 refine av rfl rfl (wl_nil (q_n (k18 _ _ ?_)))
 refine sx_sub (Sub.c 0 rfl (.c 6 rfl (.c 7 rfl (.c 8 rfl (.c 9 rfl (.c 10 rfl .nil)))))) ?_
 refine sx_seq fun K21 k21 => sx_region ?_
 refine mv rfl rfl (mv rfl rfl ?_)
 have f22 := f19.ext c20
 refine sx_call rfl rfl Tryz.call115 (c_l03Div f22 os_20 (by omega) (by omega) (hgp)) (fun v23 w23 p23 => ?_)
 obtain ⟨s23, t23, rfl, os_23, ot_23, c23⟩ := p23
 have zw23 := c23.size
 refine mv rfl rfl (sp rfl (px_ex2 rfl rfl) ?_)
 refine sp rfl (px_ex2 rfl rfl) ?_
 refine av rfl rfl (av rfl rfl (wl_nil (q_n (k21 _ _ ?_))))
 refine sx_seq fun K24 k24 => sx_region ?_
 refine mv rfl rfl (mv rfl rfl ?_)
 have f26 := (os_10.ext c20).ext c23
 have f27 := os_20.ext c23
 refine sx_call rfl rfl Tryz.call115 (c_l03Div f26 f27 (by omega) (by omega) (hgp)) (fun v28 w28 p28 => ?_)
 obtain ⟨s28, t28, rfl, os_28, ot_28, c28⟩ := p28
 have zw28 := c28.size
 refine mv rfl rfl (sp rfl (px_ex2 rfl rfl) ?_)
 refine sp rfl (px_ex2 rfl rfl) ?_
 refine av rfl rfl (av rfl rfl (wl_nil (q_n (k24 _ _ ?_))))
 refine sx_sub (Sub.c 0 rfl (.c 6 rfl (.c 7 rfl (.c 11 rfl (.c 13 rfl .nil))))) ?_
 refine sx_seq fun K29 k29 => ?_
 refine sx_seq fun K30 k30 => sx_region ?_
 refine mv rfl rfl ?_
 have f31 := os_23.ext c28
 refine sp rfl (px_len rfl Tryz.underlying26 f31) ?_
 refine sp rfl (px_gt rfl rfl) ?_
 refine mv rfl rfl ?_
 refine sx_tmpP (t := 41) rfl (fun h23 => ?_) (fun h23 => ?_)
 ·
  refine sx_guardF rfl rfl rfl rfl rfl rfl ?_
  refine sx_guardF rfl rfl rfl rfl rfl rfl ?_
  refine sx_guardF rfl rfl rfl rfl rfl rfl ?_
  refine sp rfl (px_pick rfl rfl) ?_
  refine wl_nil (q_n (k30 _ _ ?_))
  refine sx_condT rfl ?_
  refine sx_seq fun K32 k32 => sx_region ?_
  refine sp rfl (px_build rfl (xbld30x  _)) ?_
  have f38 := ((((fb2.ext c6).ext c10).ext c20).ext c23).ext c28
  refine sx_store (vs := [.bool false, (.slice none 0 0), (.slice none 0 0)]) rfl rfl f38 rfl Tryz.sizeOf30 (nbl rfl) (o3 rfl rfl rfl) (fun w33 sw33 fw33 cw33 => ?_)
  have zw33 := cw33.size
  have gw33 : Blk w33 b2 [.bool false, (.slice none 0 0), (.slice none 0 0)] 30 := fw33
  refine av rfl rfl (wl_nil (q_n (k32 _ _ ?_)))
  refine sx_retc ?_
  refine q_r (sx_ret2 Tryz.results75 ⟨_, rfl, gw33.loadA (vs := [.bool false, (.slice none 0 0), (.slice none 0 0)]) (look_lit rfl) Tryz.isAgg30 Tryz.sizeOf30⟩ rfl ?_)
  rw [rR_no (fun h => by omega)]
  have q39 := Chg.step (l := 0) (h := 0) (Chg.zero (l := 0) (h := 0) (((((cb2.t c6).t c10).t c20).t c23).t c28)) cw33 (by omega)
  exact ⟨_, _, w.heap.size, w.heap.size, w.heap.size, w.heap.size, rfl, Own.nil _ _ _ _ _, Own.nil _ _ _ _ _, by omega, ⟨by simp [noR], by simp [noR]⟩, q39⟩
 refine sx_guardT rfl rfl rfl ?_
 refine mv rfl rfl ?_
 refine sx_guardT rfl rfl rfl ?_
 refine sp rfl (px_len rfl Tryz.underlying26 os_28) ?_
 refine sx_guardT rfl rfl rfl ?_
 refine sp rfl (px_gt rfl rfl) ?_
 refine sp rfl (px_pick rfl rfl) ?_
 refine wl_nil (q_n (k30 _ _ ?_))
 refine sx_condP rfl (fun h23x1 => ?_) (fun h23x1 => ?_)
 ·
  refine sx_seq fun K40 k40 => sx_region ?_
  refine sp rfl (px_build rfl (xbld30x  _)) ?_
  have f46 := ((((fb2.ext c6).ext c10).ext c20).ext c23).ext c28
  refine sx_store (vs := [.bool false, (.slice none 0 0), (.slice none 0 0)]) rfl rfl f46 rfl Tryz.sizeOf30 (nbl rfl) (o3 rfl rfl rfl) (fun w41 sw41 fw41 cw41 => ?_)
  have zw41 := cw41.size
  have gw41 : Blk w41 b2 [.bool false, (.slice none 0 0), (.slice none 0 0)] 30 := fw41
  refine av rfl rfl (wl_nil (q_n (k40 _ _ ?_)))
  refine sx_retc ?_
  refine q_r (sx_ret2 Tryz.results75 ⟨_, rfl, gw41.loadA (vs := [.bool false, (.slice none 0 0), (.slice none 0 0)]) (look_lit rfl) Tryz.isAgg30 Tryz.sizeOf30⟩ rfl ?_)
  rw [rR_no (fun h => by omega)]
  have q47 := Chg.step (l := 0) (h := 0) (Chg.zero (l := 0) (h := 0) (((((cb2.t c6).t c10).t c20).t c23).t c28)) cw41 (by omega)
  exact ⟨_, _, w.heap.size, w.heap.size, w.heap.size, w.heap.size, rfl, Own.nil _ _ _ _ _, Own.nil _ _ _ _ _, by omega, ⟨by simp [noR], by simp [noR]⟩, q47⟩
 refine sx_skip ?_
 refine q_n (k29 _ _ ?_)
 refine sx_seq fun K48 k48 => sx_region ?_
 refine mv rfl rfl (mv rfl rfl (sx_call rfl rfl Tryz.call70 (c_l04Make f31 (by omega)) (fun v49 w49 p49 => ?_)))
 obtain ⟨s49, rfl, os_49, c49⟩ := p49
 have zw49 := c49.size
 refine sx_lit0 rfl xelt26 (fun s50 ws50 ss50 fs50 cs50 => ?_)
 have zws50 := cs50.size
 refine mv rfl rfl ?_
 have f53 := (os_28.ext c49).ext cs50
 refine sx_append rfl xelt26 rfl rfl fs50 f53 one_int (by omega) (by first | omega | (simp only [List.length_nil]; omega)) (by unfold maxLen; first | omega | (simp only [List.length_nil]; omega)) (fun a51 w51 fw51 cw51 => ?_)
 have nw51 := Own.norm (f := (Value.int .i64)) (zs := dg (d / (Nat.gcd m d))) fw51
 have zw51 := cw51.size
 refine sp rfl (px_build rfl (xbld30x0x1 nw51.one _)) ?_
 have f61 := ((((((fb2.ext c6).ext c10).ext c20).ext c23).ext c28).ext c49).ext cs50
 have f62 := f61.chg cw51 (by omega)
 have f63 := os_49.ext cs50
 have f64 := f63.chg cw51 (by omega)
 refine sx_store (vs := [.bool (ng (capI n (m / (Nat.gcd m d)))), s49, a51]) rfl rfl f62 rfl Tryz.sizeOf30 (nbl rfl) (one_cons rfl (one_cons f64.one (one_cons nw51.one one_nil))) (fun w54 sw54 fw54 cw54 => ?_)
 have zw54 := cw54.size
 have gw54 : Blk w54 b2 [.bool (ng (capI n (m / (Nat.gcd m d)))), s49, a51] 30 := fw54
 refine av rfl rfl (wl_nil (q_n (k48 _ _ ?_)))
 refine sx_sub (Sub.c 6 rfl (.c 7 rfl .nil)) ?_
 refine sx_retc ?_
 refine sx_ret2 Tryz.results75 ⟨_, rfl, gw54.loadA (vs := [.bool (ng (capI n (m / (Nat.gcd m d)))), s49, a51]) (look_lit rfl) Tryz.isAgg30 Tryz.sizeOf30⟩ rfl ?_
 have hrl := rR_len (x := sgI n m) (d := d)
 have hcs := capI_sgI (n := n) (m := m / Nat.gcd m d) (by omega)
 have f65 := f64.chg cw54 (by omega)
 have hr1 := f65
 rw [hcs, sgI_abs] at hr1
 rw [rR_ok hd0 (by omega) (by omega)] at hrl ⊢
 have q66 := Chg.step (l := 0) (h := 0) (Chg.zero (l := 0) (h := 0) (((((((cb2.t c6).t c10).t c20).t c23).t c28).t c49).t cs50)) cw51 (by omega)
 have q67 := Chg.step (l := 0) (h := 0) q66 cw54 (by omega)
 have f68 := nw51.chg cw54 (by omega)
 exact ⟨_, _, _, _, _, _, by rw [hcs, ← ng_sgI], hr1, f68, by omega, hrl, q67⟩

theorem c_sRatMake {w : World} {n1 : Bool} {v1 : Value} {lv1 uv1 : Nat} {z1 : List Int} {n2 : Bool} {v2 : Value} {lv2 uv2 : Nat} {z2 : List Int} (hv1 : Sl w lv1 uv1 v1 (z1)) (hv2 : Sl w lv2 uv2 v2 (z2)) (h63 : z1.length ≤ 4611686018427387904 ∧ z2.length ≤ 4611686018427387904) :
  Ret Tryz.prog 69 [.agg #[.bool n1, v1], .agg #[.bool n2, v2]] w fun v w' => ∃ s t ls us lt ut, v = .tuple #[.agg #[.bool ((rMake n1 z1 n2 z2).1), s, t], .bool ((rMake n1 z1 n2 z2).2.2.2)] ∧ OwnI w' (ls) (us) s intT ((rMake n1 z1 n2 z2).2.1) ∧ OwnI w' (lt) (ut) t intT ((rMake n1 z1 n2 z2).2.2.1) ∧ (w.heap.size ≤ ls ∧ us ≤ w'.heap.size ∧ w.heap.size ≤ lt ∧ ut ≤ w'.heap.size ∧ (us ≤ lt ∨ ut ≤ ls)) ∧ ((rMake n1 z1 n2 z2).2.1.length ≤ 18 ∧ (rMake n1 z1 n2 z2).2.2.1.length ≤ 18) ∧ Chg 0 0 w w' := by
 have hv10 := hv1.fit
 have hv20 := hv2.fit
 refine sx_enter Tryz.func69 rfl Tryz.ntmps69 (nbl rfl) ?_
 refine sx_seq fun K1 k1 => sx_region ?_
 refine sx_box [.bool n1, v1] rfl rfl rfl (fun b2 w3 eb2 sb2 fb2 cb2 => ?_)
 have zw3 := cb2.size
 refine sx_box [.bool n2, v2] rfl rfl rfl (fun b4 w5 eb4 sb4 fb4 cb4 => ?_)
 have zw5 := cb4.size
 refine sx_alloc [.bool false, (.slice none 0 0), (.slice none 0 0)] rfl Tryz.zeroValue30 rfl (fun b6 w7 eb6 sb6 fb6 cb6 => ?_)
 have zw7 := cb6.size
 refine av rfl rfl (wl_nil (q_n (k1 _ _ ?_)))
 refine sx_seq fun K8 k8 => ?_
 refine sx_seq fun K9 k9 => sx_region ?_
 have f10 := fb2.ext cb4
 have f11 := f10.ext cb6
 refine sp rfl (px_load rfl (f11.loadA (vs := [.bool n1, v1]) (look_lit rfl) Tryz.isAgg28 Tryz.sizeOf28)) ?_
 have f12 := hv10.ext cb2
 have f13 := f12.ext cb4
 have f14 := f13.ext cb6
 refine sx_call rfl rfl Tryz.call95 (c_sIntOk f14 (by omega)) (fun v15 w15 p15 => ?_)
 obtain ⟨rfl, c15⟩ := p15
 have zw15 := c15.size
 refine sp rfl (px_notP rfl) ?_
 refine mv rfl rfl ?_
 refine sx_tmpP (t := 9) rfl (fun h42 => ?_) (fun h42 => ?_)
 ·
  refine sx_guardF rfl rfl rfl rfl rfl rfl ?_
  refine sx_guardF rfl rfl rfl rfl rfl rfl ?_
  refine sx_guardF rfl rfl rfl rfl rfl rfl ?_
  refine sp rfl (px_pick rfl rfl) ?_
  refine wl_nil (q_n (k9 _ _ ?_))
  refine sx_condT rfl ?_
  refine sx_seq fun K16 k16 => sx_region ?_
  refine sp rfl (px_build rfl (xbld30x  _)) ?_
  have f18 := fb6.ext c15
  refine sx_store (vs := [.bool false, (.slice none 0 0), (.slice none 0 0)]) rfl rfl f18 rfl Tryz.sizeOf30 (nbl rfl) (o3 rfl rfl rfl) (fun w17 sw17 fw17 cw17 => ?_)
  have zw17 := cw17.size
  have gw17 : Blk w17 b6 [.bool false, (.slice none 0 0), (.slice none 0 0)] 30 := fw17
  refine av rfl rfl (wl_nil (q_n (k16 _ _ ?_)))
  refine sx_sub (Sub.c 2 rfl (.c 3 rfl (.c 4 rfl (.c 5 rfl .nil)))) ?_
  refine sx_retc ?_
  refine q_r (sx_ret2 Tryz.results69 ⟨_, rfl, gw17.loadA (vs := [.bool false, (.slice none 0 0), (.slice none 0 0)]) (look_lit rfl) Tryz.isAgg30 Tryz.sizeOf30⟩ rfl ?_)
  rw [rMake_no (by grind)]
  have q19 := Chg.step (l := 0) (h := 0) (Chg.zero (l := 0) (h := 0) (((cb2.t cb4).t cb6).t c15)) cw17 (by omega)
  exact ⟨_, _, w.heap.size, w.heap.size, w.heap.size, w.heap.size, rfl, Own.nil _ _ _ _ _, Own.nil _ _ _ _ _, by omega, ⟨by simp [noR], by simp [noR]⟩, q19⟩
 refine sx_guardT rfl rfl rfl ?_
 have f20 := fb4.ext cb6
 have f21 := f20.ext c15
 refine sp rfl (px_load rfl (f21.loadA (vs := [.bool n2, v2]) (look_lit rfl) Tryz.isAgg28 Tryz.sizeOf28)) ?_
 refine sx_guardT rfl rfl rfl ?_
 have f22 := hv20.ext cb2
 have f23 := f22.ext cb4
 have f24 := f23.ext cb6
 have f25 := f24.ext c15
 refine sx_call rfl rfl Tryz.call95 (c_sIntOk f25 (by omega)) (fun v26 w26 p26 => ?_)
 obtain ⟨rfl, c26⟩ := p26
 have zw26 := c26.size
 refine sx_guardT rfl rfl rfl ?_
 refine sp rfl (px_notP rfl) ?_
 refine sp rfl (px_pick rfl rfl) ?_
 refine wl_nil (q_n (k9 _ _ ?_))
 refine sx_condP rfl (fun h42x1 => ?_) (fun h42x1 => ?_)
 ·
  refine sx_seq fun K27 k27 => sx_region ?_
  refine sp rfl (px_build rfl (xbld30x  _)) ?_
  have f30 := (fb6.ext c15).ext c26
  refine sx_store (vs := [.bool false, (.slice none 0 0), (.slice none 0 0)]) rfl rfl f30 rfl Tryz.sizeOf30 (nbl rfl) (o3 rfl rfl rfl) (fun w28 sw28 fw28 cw28 => ?_)
  have zw28 := cw28.size
  have gw28 : Blk w28 b6 [.bool false, (.slice none 0 0), (.slice none 0 0)] 30 := fw28
  refine av rfl rfl (wl_nil (q_n (k27 _ _ ?_)))
  refine sx_sub (Sub.c 2 rfl (.c 3 rfl (.c 4 rfl (.c 5 rfl .nil)))) ?_
  refine sx_retc ?_
  refine q_r (sx_ret2 Tryz.results69 ⟨_, rfl, gw28.loadA (vs := [.bool false, (.slice none 0 0), (.slice none 0 0)]) (look_lit rfl) Tryz.isAgg30 Tryz.sizeOf30⟩ rfl ?_)
  rw [rMake_no (by grind)]
  have q31 := Chg.step (l := 0) (h := 0) (Chg.zero (l := 0) (h := 0) ((((cb2.t cb4).t cb6).t c15).t c26)) cw28 (by omega)
  exact ⟨_, _, w.heap.size, w.heap.size, w.heap.size, w.heap.size, rfl, Own.nil _ _ _ _ _, Own.nil _ _ _ _ _, by omega, ⟨by simp [noR], by simp [noR]⟩, q31⟩
 have hI := Decidable.not_not.1 h42
 have hJ := Decidable.not_not.1 h42x1
 obtain ⟨x1, rfl, rfl, hx1⟩ := hI.int
 obtain ⟨x2, rfl, rfl, hx2⟩ := hJ.int
 refine sx_skip ?_
 refine q_n (k8 _ _ ?_)
 refine sx_seq fun K32 k32 => sx_region ?_
 refine sp rfl (px_field rfl xfld28x0) ?_
 have f34 := (f11.ext c15).ext c26
 refine sp rfl (px_load rfl (f34.load1 rfl Tryz.isAgg4)) ?_
 refine sp rfl (px_field rfl xfld28x0) ?_
 have f35 := f21.ext c26
 refine sp rfl (px_load rfl (f35.load1 rfl Tryz.isAgg4)) ?_
 refine sp rfl (px_neB Tryz.underlying4 rfl rfl) ?_
 refine sp rfl (px_field rfl xfld28x1) ?_
 refine sp rfl (px_load rfl (f34.load1 rfl Tryz.isAgg26)) ?_
 refine sp rfl (px_field rfl xfld28x1) ?_
 refine sp rfl (px_load rfl (f35.load1 rfl Tryz.isAgg26)) ?_
 have f37 := (f14.ext c15).ext c26
 have f38 := f25.ext c26
 refine sx_call rfl rfl Tryz.call75 (c_l05Low f37 f38 (by omega) (by omega)) (fun v39 w39 p39 => ?_)
 obtain ⟨s39, t39, ls39, us39, lt39, ut39, rfl, os_39, ot_39, hd39, hl39, c39⟩ := p39
 have zw39 := c39.size
 refine sp rfl (px_ex2 rfl rfl) ?_
 refine sp rfl (px_ex2 rfl rfl) ?_
 have f43 := ((fb6.ext c15).ext c26).ext c39
 refine sx_store (vs := [.bool ((rR (sgI ((ng x1) != (ng x2)) x1.natAbs) x2.natAbs).1), s39, t39]) rfl rfl f43 rfl Tryz.sizeOf30 (nbl rfl) (one_cons rfl (one_cons os_39.one (one_cons ot_39.one one_nil))) (fun w40 sw40 fw40 cw40 => ?_)
 have zw40 := cw40.size
 have gw40 : Blk w40 b6 [.bool ((rR (sgI ((ng x1) != (ng x2)) x1.natAbs) x2.natAbs).1), s39, t39] 30 := fw40
 refine av rfl rfl (wl_nil (q_n (k32 _ _ ?_)))
 refine sx_sub (Sub.c 4 rfl (.c 5 rfl .nil)) ?_
 refine sx_retc ?_
 refine sx_ret2 Tryz.results69 ⟨_, rfl, gw40.loadA (vs := [.bool ((rR (sgI ((ng x1) != (ng x2)) x1.natAbs) x2.natAbs).1), s39, t39]) (look_lit rfl) Tryz.isAgg30 Tryz.sizeOf30⟩ rfl ?_
 have hrl := rMake_len (n1 := ng x1) (z1 := dg x1.natAbs) (n2 := ng x2) (z2 := dg x2.natAbs)
 rw [rMake_ok hI hJ] at hrl ⊢
 have q44 := Chg.step (l := 0) (h := 0) (Chg.zero (l := 0) (h := 0) (((((cb2.t cb4).t cb6).t c15).t c26).t c39)) cw40 (by omega)
 have f45 := os_39.chg cw40 (by omega)
 have f46 := ot_39.chg cw40 (by omega)
 exact ⟨_, _, _, _, _, _, rfl, f45, f46, by omega, hrl, q44⟩

theorem c_sRatInt {w : World} {n1 : Bool} {v1 : Value} {lv1 uv1 : Nat} {z1 : List Int} (hv1 : Sl w lv1 uv1 v1 (z1)) (h63 : z1.length ≤ 4611686018427387904) :
  Ret Tryz.prog 29 [.agg #[.bool n1, v1]] w fun v w' => ∃ s t ls us lt ut, v = .tuple #[.agg #[.bool ((rInt n1 z1).1), s, t], .bool ((rInt n1 z1).2.2.2)] ∧ OwnI w' (ls) (us) s intT ((rInt n1 z1).2.1) ∧ OwnI w' (lt) (ut) t intT ((rInt n1 z1).2.2.1) ∧ (w.heap.size ≤ ls ∧ us ≤ w'.heap.size ∧ w.heap.size ≤ lt ∧ ut ≤ w'.heap.size ∧ (us ≤ lt ∨ ut ≤ ls)) ∧ ((rInt n1 z1).2.1.length ≤ 18 ∧ (rInt n1 z1).2.2.1.length ≤ 18) ∧ Chg 0 0 w w' := by
 have hv10 := hv1.fit
 refine sx_enter Tryz.func29 rfl Tryz.ntmps29 (nbl rfl) ?_
 refine sx_seq fun K1 k1 => sx_region ?_
 refine sx_box [.bool n1, v1] rfl rfl rfl (fun b2 w3 eb2 sb2 fb2 cb2 => ?_)
 have zw3 := cb2.size
 refine sx_alloc [.bool false, (.slice none 0 0), (.slice none 0 0)] rfl Tryz.zeroValue30 rfl (fun b4 w5 eb4 sb4 fb4 cb4 => ?_)
 have zw5 := cb4.size
 refine av rfl rfl (wl_nil (q_n (k1 _ _ ?_)))
 refine sx_seq fun K6 k6 => ?_
 have f7 := fb2.ext cb4
 have f8 := hv10.ext cb2
 have f9 := f8.ext cb4
 refine dx_region (fun w' => Chg b4 (b4 + 1) w5 w') (by kernel_rfl) (Chg.zero (Chg.drew _)) ?_
 have d10 := Chg.drew w5
 have s10 : Chg b4 (b4 + 1) w5 (World.drew w5) := Chg.zero (Chg.drew _)
 have y10 : (World.drew w5).heap.size = w5.heap.size := rfl
 generalize World.drew w5 = w10 at *
 have zw10 := d10.size
 refine dt 0 rfl rfl rfl rfl s10 (fun _ hS => px_load rfl ((f7.chg hS (by omega)).loadA (vs := [.bool n1, v1]) (look_lit rfl) Tryz.isAgg28 Tryz.sizeOf28)) ?_
 refine dx_eff 1 rfl (by kernel_rfl) ?_
 refine sx_call rfl rfl Tryz.call30 (c_sIntOf (by omega)) (fun v11 w11 p11 => ?_)
 obtain ⟨s11, rfl, os_11, c11⟩ := p11
 have zw11 := c11.size
 have s12 : Chg b4 (b4 + 1) w5 w11 := (Chg.zero (l := b4) (h := (b4 + 1)) (d10.t c11))
 refine wl_nil ?_
 refine dx_next s12 ?_
 refine dx_eff 2 rfl (by kernel_rfl) ?_
 have f14 := (f9.ext d10).ext c11
 refine sx_call rfl rfl Tryz.call69 (c_sRatMake f14 os_11.sv (by have h9 := len_i64 (n := 1) (by omega); omega)) (fun v15 w15 p15 => ?_)
 obtain ⟨s15, t15, ls15, us15, lt15, ut15, rfl, os_15, ot_15, hd15, hl15, c15⟩ := p15
 have zw15 := c15.size
 have s16 : Chg b4 (b4 + 1) w5 w15 := (Chg.zero (l := b4) (h := (b4 + 1)) ((d10.t c11).t c15))
 refine wl_nil ?_
 refine dx_next s16 ?_
 refine dt 3 rfl rfl rfl rfl s16 (fun _ hS => px_ex2 rfl rfl) ?_
 refine dt 4 rfl rfl rfl rfl s16 (fun _ hS => px_ex2 rfl rfl) ?_
 refine dx_eff 5 rfl (by kernel_rfl) ?_
 have f20 := ((fb4.ext d10).ext c11).ext c15
 refine sx_store (vs := [.bool ((rMake n1 z1 (ng (1 : Int)) (dg ((1 : Int)).natAbs)).1), s15, t15]) rfl rfl f20 rfl Tryz.sizeOf30 (nbl rfl) (one_cons rfl (one_cons os_15.one (one_cons ot_15.one one_nil))) (fun w17 sw17 fw17 cw17 => ?_)
 have zw17 := cw17.size
 have gw17 : Blk w17 b4 [.bool ((rMake n1 z1 (ng (1 : Int)) (dg ((1 : Int)).natAbs)).1), s15, t15] 30 := fw17
 have q22 := Chg.step (l := b4) (h := (b4 + 1)) (Chg.zero (l := b4) (h := (b4 + 1)) ((d10.t c11).t c15)) cw17 (by omega)
 have s21 : Chg b4 (b4 + 1) w5 w17 := q22
 refine wl_nil ?_
 refine dx_next s21 ?_
 refine dt 6 rfl rfl rfl rfl s21 (fun _ hS => px_assign rfl) ?_
 refine dx_done (by kernel_rfl) ?_
 refine q_n (k6 _ _ ?_)
 refine sx_retc ?_
 refine sx_ret2 Tryz.results29 ⟨_, rfl, gw17.loadA (vs := [.bool ((rMake n1 z1 (ng (1 : Int)) (dg ((1 : Int)).natAbs)).1), s15, t15]) (look_lit rfl) Tryz.isAgg30 Tryz.sizeOf30⟩ rfl ?_
 have hrl := rInt_len (n := n1) (z := z1)
 unfold rInt at hrl ⊢
 have q23 := Chg.step (l := 0) (h := 0) (Chg.zero (l := 0) (h := 0) ((((cb2.t cb4).t d10).t c11).t c15)) cw17 (by omega)
 have f24 := os_15.chg cw17 (by omega)
 have f25 := ot_15.chg cw17 (by omega)
 exact ⟨_, _, _, _, _, _, rfl, f24, f25, by omega, hrl, q23⟩

theorem c_sNatTen {w : World} {k : Int} (hk : 0 ≤ k ∧ k ≤ 449) :
  Ret Tryz.prog 122 [.int .i64 k] w fun v w' => ∃ s, v = s ∧ OwnI w' w.heap.size w'.heap.size s intT (dg (10 ^ (k).toNat)) ∧ Chg 0 0 w w' := by
 refine sx_enter Tryz.func122 rfl Tryz.ntmps122 (nbl rfl) ?_
 refine sx_seq fun K1 k1 => sx_region ?_
 refine av rfl rfl (wl_nil (q_n (k1 _ _ ?_)))
 refine sx_seq fun K2 k2 => ?_
 refine sx_seq fun K3 k3 => sx_region ?_
 refine mv rfl rfl (sx_call rfl rfl Tryz.call139 (c_l01In) (fun v4 w4 p4 => ?_))
 obtain ⟨rfl, c4⟩ := p4
 have zw4 := c4.size
 refine sp rfl (px_notP rfl) ?_
 refine wl_nil (q_n (k3 _ _ ?_))
 have h76 : ¬ (¬ ((0 : Int) ≤ k ∧ k ≤ (449 : Int))) := by omega
 refine sx_condPF rfl h76 ?_
 refine sx_skip ?_
 refine q_n (k2 _ _ ?_)
 refine sx_seq fun K5 k5 => sx_region ?_
 refine mv rfl rfl (sp rfl (px_quo rfl rfl (by omega) (by omega) (by omega)) ?_)
 refine sx_make (c := (k / 9).toNat) rfl xelt26 (look_int rfl (by omega)) (look_int rfl (by omega)) (by omega) (by unfold maxLen; omega) (fun s6 ws6 fs6 cs6 ls6 => ?_)
 have ns6 := fs6.made
 have zws6 := cs6.size
 refine av rfl rfl (wl_nil (q_n (k5 _ _ ?_)))
 refine sx_seq fun K7 k7 => sx_region ?_
 refine av rfl rfl (wl_nil (q_n (k7 _ _ ?_)))
 refine sx_seq fun K8 k8 => ?_
 refine sx_seq fun K9 k9 => sx_region ?_
 refine av rfl rfl (wl_nil (q_n (k9 _ _ ?_)))
 refine sx_block ?_
 refine sx_loop (fun mm aa w' => ∃ (j : Nat) (c : Nat), Agr 24 [(0, .int .i64 k), (3, s6), (4, .int .i64 ((c : Nat) : Int)), (5, .int .i64 ↑j)] aa ∧ Chg 0 0 ws6 w' ∧ Own w' w4.heap.size ws6.heap.size s6 3 ((List.replicate ((k / 9).toNat) 0).length) 1 ((List.replicate ((k / 9).toNat) 0).map (Value.int .i64)) ∧ (mm = (k % 9).toNat - j) ∧ ((j : Int) ≤ k % 9) ∧ (c = 10 ^ j)) (_) (fun a ha => ⟨0, 1, ha.sub (Sub.c 0 rfl (.c 3 rfl (.c 4 (look_int (t := 4) rfl (by first | omega | simp)) (.c 5 (look_int (t := 5) rfl (by first | omega | simp)) .nil)))), Chg.refl _ _ _, (ns6.mono (by omega) (by omega)), rfl, by omega, rfl⟩) ?_
 rintro mm aa wl10 ⟨j, c, hAwl10, cwl10, hs_s6, hm, hj, hc⟩
 refine (show cw Tryz.prog 24 _ _ _ wl10 from ?_) aa hAwl10
 clear hAwl10
 have zwl10 := cwl10.size
 have hb9 := ten_le (j := j) (by omega)
 refine sx_seq fun K11 k11 => ?_
 refine sx_seq fun K12 k12 => sx_region ?_
 refine mv rfl rfl (mv rfl rfl (sp rfl (px_rem rfl rfl (by omega) (by omega)) ?_))
 refine sp rfl (px_lt rfl rfl) ?_
 refine wl_nil (q_n (k12 _ _ ?_))
 refine sx_condP rfl (fun h81 => ?_) (fun h81 => ?_)
 ·
  refine sx_skip ?_
  refine q_n (k11 _ _ ?_)
  refine sx_seq fun K13 k13 => ?_
  refine sx_block ?_
  refine sx_region ?_
  refine mv rfl rfl (sp rfl (px_mul rfl rfl (by omega)) ?_)
  refine av rfl rfl (wl_nil ?_)
  refine q_bn (q_n (k13 _ _ ?_))
  refine sx_region ?_
  refine mv rfl rfl (sp rfl (px_add rfl rfl (by omega)) ?_)
  refine av rfl rfl (wl_nil ?_)
  exact fun a ha => ⟨_, by omega, (j + 1), (c * 10), ha.sub (Sub.c 0 rfl (.c 3 rfl (.c 4 (look_int (t := 4) rfl (by first | omega | simp)) (.c 5 (look_int (t := 5) rfl (by first | omega | simp)) .nil)))), cwl10, (hs_s6.mono (by omega) (by omega)), rfl, by omega, by rw [hc, Nat.pow_succ]⟩
 refine sx_exit ?_
 refine q_e (q_e (q_bx (q_n (k8 _ _ ?_))))
 refine sx_seq fun K14 k14 => sx_region ?_
 refine mv rfl rfl (mv rfl rfl ?_)
 refine sx_lit1 rfl xelt26 rfl rfl (fun s15 ws15 ss15 fs15 cs15 => ?_)
 have ns15 := Own.norm (f := (Value.int .i64)) (zs := [((c : Nat) : Int)]) fs15
 have zws15 := cs15.size
 have f17 := hs_s6.ext cs15
 refine sx_append rfl xelt26 rfl rfl f17 ns15.sv one_int (by omega) (by simp only [List.length_replicate, List.length_cons, List.length_nil]; omega) (by unfold maxLen; simp only [List.length_replicate, List.length_cons, List.length_nil]; omega) (fun a16 w16 fw16 cw16 => ?_)
 have nw16 := Own.app (f := (Value.int .i64)) (a := List.replicate ((k / 9).toNat) 0) (b := [((c : Nat) : Int)]) fw16
 have zw16 := cw16.size
 refine av rfl rfl (wl_nil (q_n (k14 _ _ ?_)))
 refine sx_retc ?_
 refine sx_ret1 Tryz.results122 rfl ?_
 have hd := ten_dg hk.1 (j := j) (by omega) hc
 rw [← hd]
 have q18 := Chg.step (l := 0) (h := 0) (Chg.zero (l := 0) (h := 0) (((c4.t cs6).t cwl10).t cs15)) cw16 (by omega)
 exact ⟨_, rfl, (Own.mono nw16 (by omega) (by omega)), q18⟩

theorem c_l07Ten {w : World} {k : Int} (hk : 0 ≤ k ∧ k ≤ 449) :
  Ret Tryz.prog 88 [.int .i64 k] w fun v w' => ∃ s, v = .agg #[.bool (ng (tenI k)), s] ∧ OwnI w' w.heap.size w'.heap.size s intT (dg (tenI k).natAbs) ∧ Chg 0 0 w w' := by
 refine sx_enter Tryz.func88 rfl Tryz.ntmps88 (nbl rfl) ?_
 refine sx_seq fun K1 k1 => sx_region ?_
 refine sx_alloc [.bool false, (.slice none 0 0)] rfl Tryz.zeroValue28 rfl (fun b2 w3 eb2 sb2 fb2 cb2 => ?_)
 have zw3 := cb2.size
 refine wl_nil (q_n (k1 _ _ ?_))
 refine sx_seq fun K4 k4 => sx_region ?_
 refine mv rfl rfl (sx_call rfl rfl Tryz.call122 (c_sNatTen (by omega)) (fun v5 w5 p5 => ?_))
 obtain ⟨s5, rfl, os_5, c5⟩ := p5
 have zw5 := c5.size
 refine sp rfl (px_build rfl (xbld28x1 os_5.one _)) ?_
 have f7 := fb2.ext c5
 refine sx_store (vs := [.bool false, v5]) rfl rfl f7 rfl Tryz.sizeOf28 (nbl rfl) (one_cons rfl (one_cons os_5.one one_nil)) (fun w6 sw6 fw6 cw6 => ?_)
 have zw6 := cw6.size
 have gw6 : Blk w6 b2 [.bool false, v5] 28 := fw6
 refine wl_nil (q_n (k4 _ _ ?_))
 refine sx_retc ?_
 refine sx_ret1 Tryz.results88 ⟨_, rfl, gw6.loadA (vs := [.bool false, v5]) (look_lit rfl) Tryz.isAgg28 Tryz.sizeOf28⟩ ?_
 rw [← ten_ng, tenI_abs]
 have q8 := Chg.step (l := 0) (h := 0) (Chg.zero (l := 0) (h := 0) (cb2.t c5)) cw6 (by omega)
 have f9 := os_5.chg cw6 (by omega)
 exact ⟨_, rfl, (Own.mono f9 (by omega) (by omega)), q8⟩

theorem c_sDecRat {w : World} {n1 : Bool} {v1 : Value} {lv1 uv1 : Nat} {z1 : List Int} {p1 : Int} (hv1 : Sl w lv1 uv1 v1 (z1)) (h63 : z1.length ≤ 4611686018427387904) :
  Ret Tryz.prog 73 [.agg #[.bool n1, v1, .int .i64 p1]] w fun v w' => ∃ s t ls us lt ut, v = .agg #[.bool ((dRat n1 z1 p1).1), s, t] ∧ OwnI w' (ls) (us) s intT ((dRat n1 z1 p1).2.1) ∧ OwnI w' (lt) (ut) t intT ((dRat n1 z1 p1).2.2.1) ∧ (w.heap.size ≤ ls ∧ us ≤ w'.heap.size ∧ w.heap.size ≤ lt ∧ ut ≤ w'.heap.size ∧ (us ≤ lt ∨ ut ≤ ls)) ∧ ((dRat n1 z1 p1).2.1.length ≤ 18 ∧ (dRat n1 z1 p1).2.2.1.length ≤ 18) ∧ Chg 0 0 w w' := by
 have hv10 := hv1.fit
 refine sx_enter Tryz.func73 rfl Tryz.ntmps73 (nbl rfl) ?_
 refine sx_seq fun K1 k1 => sx_region ?_
 refine sx_box [.bool n1, v1, .int .i64 p1] rfl rfl rfl (fun b2 w3 eb2 sb2 fb2 cb2 => ?_)
 have zw3 := cb2.size
 refine sx_alloc [.bool false, (.slice none 0 0), (.slice none 0 0)] rfl Tryz.zeroValue30 rfl (fun b4 w5 eb4 sb4 fb4 cb4 => ?_)
 have zw5 := cb4.size
 refine wl_nil (q_n (k1 _ _ ?_))
 refine sx_seq fun K6 k6 => ?_
 refine sx_seq fun K7 k7 => sx_region ?_
 have f8 := fb2.ext cb4
 refine sp rfl (px_load rfl (f8.loadA (vs := [.bool n1, v1, .int .i64 p1]) (look_lit rfl) Tryz.isAgg63 Tryz.sizeOf63)) ?_
 have f9 := hv10.ext cb2
 have f10 := f9.ext cb4
 refine sx_call rfl rfl Tryz.call109 (c_sDecOk f10 (by omega)) (fun v11 w11 p11 => ?_)
 obtain ⟨rfl, c11⟩ := p11
 have zw11 := c11.size
 refine sp rfl (px_notP rfl) ?_
 refine wl_nil (q_n (k7 _ _ ?_))
 refine sx_condP rfl (fun h23 => ?_) (fun h23 => ?_)
 ·
  refine sx_seq fun K12 k12 => sx_region ?_
  refine sp rfl (px_build rfl (xbld30x  _)) ?_
  have f14 := fb4.ext c11
  refine sx_store (vs := [.bool false, (.slice none 0 0), (.slice none 0 0)]) rfl rfl f14 rfl Tryz.sizeOf30 (nbl rfl) (o3 rfl rfl rfl) (fun w13 sw13 fw13 cw13 => ?_)
  have zw13 := cw13.size
  have gw13 : Blk w13 b4 [.bool false, (.slice none 0 0), (.slice none 0 0)] 30 := fw13
  refine wl_nil (q_n (k12 _ _ ?_))
  refine sx_retc ?_
  refine q_r (sx_ret1 Tryz.results73 ⟨_, rfl, gw13.loadA (vs := [.bool false, (.slice none 0 0), (.slice none 0 0)]) (look_lit rfl) Tryz.isAgg30 Tryz.sizeOf30⟩ ?_)
  rw [dRat_no h23]
  have q15 := Chg.step (l := 0) (h := 0) (Chg.zero (l := 0) (h := 0) ((cb2.t cb4).t c11)) cw13 (by omega)
  exact ⟨_, _, w.heap.size, w.heap.size, w.heap.size, w.heap.size, rfl, Own.nil _ _ _ _ _, Own.nil _ _ _ _ _, by omega, ⟨by simp [noR], by simp [noR]⟩, q15⟩
 have hD := Decidable.not_not.1 h23
 obtain ⟨x1, rfl, rfl, hx1⟩ := hD.int
 have ltn := ten_len' (k := p1) (by omega)
 refine sx_skip ?_
 refine q_n (k6 _ _ ?_)
 refine sx_seq fun K16 k16 => ?_
 refine sx_cut k16 (fun fr w' => ∃ (gb17x0 : Nat) (gs17x1 : Value) (gl17x1 : Nat) (gu17x1 : Nat) (gs17x2 : Value) (gl17x2 : Nat) (gu17x2 : Nat), fr = [(2, .pointer (some ⟨b4, 0, none⟩)), (3, .pointer (some ⟨gb17x0, 0, none⟩))] ∧ Chg 0 0 w11 w' ∧ (Blk w' gb17x0 [.bool ((rMake (ng x1) (dg x1.natAbs) (ng (tenI p1)) (dg (tenI p1).natAbs)).1), gs17x1, gs17x2] 30) ∧ (Own w' gl17x1 gu17x1 gs17x1 intT (((rMake (ng x1) (dg x1.natAbs) (ng (tenI p1)) (dg (tenI p1).natAbs)).2.1).length) 1 (((rMake (ng x1) (dg x1.natAbs) (ng (tenI p1)) (dg (tenI p1).natAbs)).2.1).map (Value.int .i64))) ∧ (Own w' gl17x2 gu17x2 gs17x2 intT (((rMake (ng x1) (dg x1.natAbs) (ng (tenI p1)) (dg (tenI p1).natAbs)).2.2.1).length) 1 (((rMake (ng x1) (dg x1.natAbs) (ng (tenI p1)) (dg (tenI p1).natAbs)).2.2.1).map (Value.int .i64))) ∧ (w11.heap.size ≤ gb17x0 ∧ gb17x0 + 1 ≤ w'.heap.size) ∧ (w11.heap.size ≤ gl17x1 ∧ gu17x1 ≤ w'.heap.size) ∧ (w11.heap.size ≤ gl17x2 ∧ gu17x2 ≤ w'.heap.size) ∧ (gu17x1 ≤ gb17x0 ∨ gb17x0 + 1 ≤ gl17x1) ∧ (gu17x2 ≤ gb17x0 ∨ gb17x0 + 1 ≤ gl17x2) ∧ (gu17x2 ≤ gl17x1 ∨ gu17x1 ≤ gl17x2)) (fun kc17 => ?_) ?_
 ·
  have f18 := f8.ext c11
  have f19 := fb4.ext c11
  have f20 := f10.ext c11
  refine dx_region (fun w' => Chg 0 0 w11 w') (by kernel_rfl) (Chg.zero (Chg.drew _)) ?_
  have d21 := Chg.drew w11
  have s21 : Chg 0 0 w11 (World.drew w11) := Chg.zero (Chg.drew _)
  have y21 : (World.drew w11).heap.size = w11.heap.size := rfl
  generalize World.drew w11 = w21 at *
  have zw21 := d21.size
  refine dt 0 rfl rfl rfl rfl s21 (fun _ hS => px_field rfl xfld63x0) ?_
  refine dt 1 rfl rfl rfl rfl s21 (fun _ hS => px_load rfl ((f18.chg hS (by omega)).loadA (vs := [.bool (ng x1), v1]) (look_lit rfl) Tryz.isAgg28 Tryz.sizeOf28)) ?_
  refine dt 2 rfl rfl rfl rfl s21 (fun _ hS => px_field rfl xfld63x1) ?_
  refine dt 3 rfl rfl rfl rfl s21 (fun _ hS => px_load rfl ((f18.chg hS (by omega)).load1 rfl Tryz.isAgg3)) ?_
  refine dx_eff2 4 9 rfl rfl (by kernel_rfl) ?_ ?_
  ·
   refine sx_call rfl rfl Tryz.call88 (c_l07Ten (by omega)) (fun v22 w22 p22 => ?_)
   obtain ⟨s22, rfl, os_22, c22⟩ := p22
   have zw22 := c22.size
   have s23 : Chg 0 0 w11 w22 := (d21.t c22)
   refine wl_nil ?_
   refine dx_next s23 ?_
   refine dx_eff2 5 9 rfl rfl (by kernel_rfl) ?_ ?_
   ·
    have f25 := (f20.ext d21).ext c22
    refine sx_call rfl rfl Tryz.call69 (c_sRatMake f25 os_22.sv (by have h9 := len_ten (k := p1) (by omega); omega)) (fun v26 w26 p26 => ?_)
    obtain ⟨s26, t26, ls26, us26, lt26, ut26, rfl, os_26, ot_26, hd26, hl26, c26⟩ := p26
    have zw26 := c26.size
    have s27 : Chg 0 0 w11 w26 := ((d21.t c22).t c26)
    refine wl_nil ?_
    refine dx_next s27 ?_
    refine dt 6 rfl rfl rfl rfl s27 (fun _ hS => px_move rfl) ?_
    refine dt 7 rfl rfl rfl rfl s27 (fun _ hS => px_ex2 rfl rfl) ?_
    refine dt 8 rfl rfl rfl rfl s27 (fun _ hS => px_ex2 rfl rfl) ?_
    refine dx_eff 9 rfl (by kernel_rfl) ?_
    refine sx_alloc [.bool false, (.slice none 0 0), (.slice none 0 0)] rfl Tryz.zeroValue30 rfl (fun b28 w29 eb28 sb28 fb28 cb28 => ?_)
    have zw29 := cb28.size
    have s30 : Chg 0 0 w11 w29 := (((d21.t c22).t c26).t cb28)
    refine wl_nil ?_
    refine dx_next s30 ?_
    refine dx_eff 10 rfl (by kernel_rfl) ?_
    have f32 := ot_26.ext cb28
    have f33 := os_26.ext cb28
    refine sx_store (vs := [.bool ((rMake (ng x1) (dg x1.natAbs) (ng (tenI p1)) (dg (tenI p1).natAbs)).1), s26, t26]) rfl rfl fb28 rfl Tryz.sizeOf30 (nbl rfl) (one_cons rfl (one_cons f33.one (one_cons f32.one one_nil))) (fun w31 sw31 fw31 cw31 => ?_)
    have zw31 := cw31.size
    have gw31 : Blk w31 b28 [.bool ((rMake (ng x1) (dg x1.natAbs) (ng (tenI p1)) (dg (tenI p1).natAbs)).1), s26, t26] 30 := fw31
    have q35 := Chg.step (l := 0) (h := 0) (Chg.zero (l := 0) (h := 0) (((d21.t c22).t c26).t cb28)) cw31 (by omega)
    have s34 : Chg 0 0 w11 w31 := q35
    refine wl_nil ?_
    refine dx_next s34 ?_
    refine dt 11 rfl rfl rfl rfl s34 (fun _ hS => px_assign rfl) ?_
    refine dx_done (by kernel_rfl) ?_
    have f36 := f33.chg cw31 (by omega)
    have f37 := f32.chg cw31 (by omega)
    have q38 := Chg.step (l := 0) (h := 0) (Chg.zero (l := 0) (h := 0) (((d21.t c22).t c26).t cb28)) cw31 (by omega)
    exact q_n (kw_sub (Sub.c 2 rfl (.c 3 rfl .nil)) (kc17 _ _ ⟨b28, s26, ls26, us26, t26, lt26, ut26, rfl, q38, gw31, f36, f37, by omega, by omega, by omega, by omega, by omega, by omega⟩))
   refine sx_alloc [.bool false, (.slice none 0 0), (.slice none 0 0)] rfl Tryz.zeroValue30 rfl (fun b39 w40 eb39 sb39 fb39 cb39 => ?_)
   have zw40 := cb39.size
   have s41 : Chg 0 0 w11 w40 := ((d21.t c22).t cb39)
   refine wl_nil ?_
   refine dx_next s41 ?_
   refine dx_eff 5 rfl (by kernel_rfl) ?_
   have f44 := ((f20.ext d21).ext c22).ext cb39
   have f45 := os_22.ext cb39
   refine sx_call rfl rfl Tryz.call69 (c_sRatMake f44 f45.sv (by have h9 := len_ten (k := p1) (by omega); omega)) (fun v46 w46 p46 => ?_)
   obtain ⟨s46, t46, ls46, us46, lt46, ut46, rfl, os_46, ot_46, hd46, hl46, c46⟩ := p46
   have zw46 := c46.size
   have s47 : Chg 0 0 w11 w46 := (((d21.t c22).t cb39).t c46)
   refine wl_nil ?_
   refine dx_next s47 ?_
   refine dt 6 rfl rfl rfl rfl s47 (fun _ hS => px_move rfl) ?_
   refine dt 7 rfl rfl rfl rfl s47 (fun _ hS => px_ex2 rfl rfl) ?_
   refine dt 8 rfl rfl rfl rfl s47 (fun _ hS => px_ex2 rfl rfl) ?_
   refine dx_eff 10 rfl (by kernel_rfl) ?_
   have f49 := fb39.ext c46
   refine sx_store (vs := [.bool ((rMake (ng x1) (dg x1.natAbs) (ng (tenI p1)) (dg (tenI p1).natAbs)).1), s46, t46]) rfl rfl f49 rfl Tryz.sizeOf30 (nbl rfl) (one_cons rfl (one_cons os_46.one (one_cons ot_46.one one_nil))) (fun w48 sw48 fw48 cw48 => ?_)
   have zw48 := cw48.size
   have gw48 : Blk w48 b39 [.bool ((rMake (ng x1) (dg x1.natAbs) (ng (tenI p1)) (dg (tenI p1).natAbs)).1), s46, t46] 30 := fw48
   have q51 := Chg.step (l := 0) (h := 0) (Chg.zero (l := 0) (h := 0) (((d21.t c22).t cb39).t c46)) cw48 (by omega)
   have s50 : Chg 0 0 w11 w48 := q51
   refine wl_nil ?_
   refine dx_next s50 ?_
   refine dt 11 rfl rfl rfl rfl s50 (fun _ hS => px_assign rfl) ?_
   refine dx_done (by kernel_rfl) ?_
   have f52 := os_46.chg cw48 (by omega)
   have f53 := ot_46.chg cw48 (by omega)
   have q54 := Chg.step (l := 0) (h := 0) (Chg.zero (l := 0) (h := 0) (((d21.t c22).t cb39).t c46)) cw48 (by omega)
   exact q_n (kw_sub (Sub.c 2 rfl (.c 3 rfl .nil)) (kc17 _ _ ⟨b39, s46, ls46, us46, t46, lt46, ut46, rfl, q54, gw48, f52, f53, by omega, by omega, by omega, by omega, by omega, by omega⟩))
  refine sx_alloc [.bool false, (.slice none 0 0), (.slice none 0 0)] rfl Tryz.zeroValue30 rfl (fun b55 w56 eb55 sb55 fb55 cb55 => ?_)
  have zw56 := cb55.size
  have s57 : Chg 0 0 w11 w56 := (d21.t cb55)
  refine wl_nil ?_
  refine dx_next s57 ?_
  refine dx_eff 4 rfl (by kernel_rfl) ?_
  refine sx_call rfl rfl Tryz.call88 (c_l07Ten (by omega)) (fun v58 w58 p58 => ?_)
  obtain ⟨s58, rfl, os_58, c58⟩ := p58
  have zw58 := c58.size
  have s59 : Chg 0 0 w11 w58 := ((d21.t cb55).t c58)
  refine wl_nil ?_
  refine dx_next s59 ?_
  refine dx_eff 5 rfl (by kernel_rfl) ?_
  have f61 := (f20.ext d21).ext cb55
  have f62 := f61.ext c58
  refine sx_call rfl rfl Tryz.call69 (c_sRatMake f62 os_58.sv (by have h9 := len_ten (k := p1) (by omega); omega)) (fun v63 w63 p63 => ?_)
  obtain ⟨s63, t63, ls63, us63, lt63, ut63, rfl, os_63, ot_63, hd63, hl63, c63⟩ := p63
  have zw63 := c63.size
  have s64 : Chg 0 0 w11 w63 := (((d21.t cb55).t c58).t c63)
  refine wl_nil ?_
  refine dx_next s64 ?_
  refine dt 6 rfl rfl rfl rfl s64 (fun _ hS => px_move rfl) ?_
  refine dt 7 rfl rfl rfl rfl s64 (fun _ hS => px_ex2 rfl rfl) ?_
  refine dt 8 rfl rfl rfl rfl s64 (fun _ hS => px_ex2 rfl rfl) ?_
  refine dx_eff 10 rfl (by kernel_rfl) ?_
  have f67 := (fb55.ext c58).ext c63
  refine sx_store (vs := [.bool ((rMake (ng x1) (dg x1.natAbs) (ng (tenI p1)) (dg (tenI p1).natAbs)).1), s63, t63]) rfl rfl f67 rfl Tryz.sizeOf30 (nbl rfl) (one_cons rfl (one_cons os_63.one (one_cons ot_63.one one_nil))) (fun w65 sw65 fw65 cw65 => ?_)
  have zw65 := cw65.size
  have gw65 : Blk w65 b55 [.bool ((rMake (ng x1) (dg x1.natAbs) (ng (tenI p1)) (dg (tenI p1).natAbs)).1), s63, t63] 30 := fw65
  have q69 := Chg.step (l := 0) (h := 0) (Chg.zero (l := 0) (h := 0) (((d21.t cb55).t c58).t c63)) cw65 (by omega)
  have s68 : Chg 0 0 w11 w65 := q69
  refine wl_nil ?_
  refine dx_next s68 ?_
  refine dt 11 rfl rfl rfl rfl s68 (fun _ hS => px_assign rfl) ?_
  refine dx_done (by kernel_rfl) ?_
  have f70 := os_63.chg cw65 (by omega)
  have f71 := ot_63.chg cw65 (by omega)
  have q72 := Chg.step (l := 0) (h := 0) (Chg.zero (l := 0) (h := 0) (((d21.t cb55).t c58).t c63)) cw65 (by omega)
  exact q_n (kw_sub (Sub.c 2 rfl (.c 3 rfl .nil)) (kc17 _ _ ⟨b55, s63, ls63, us63, t63, lt63, ut63, rfl, q72, gw65, f70, f71, by omega, by omega, by omega, by omega, by omega, by omega⟩))
 rintro fr w'17 ⟨gb17x0, gs17x1, gl17x1, gu17x1, gs17x2, gl17x2, gu17x2, rfl, cw'17, xgb17x0, xgs17x1, xgs17x2, ygb17x0, ygl17x1, ygl17x2, dgl17x1xgb17x0, dgl17x2xgb17x0, dgl17x2xgl17x1⟩
 have zw'17 := cw'17.size
 refine sx_seq fun K73 k73 => sx_region ?_
 refine sp rfl (px_load rfl (xgb17x0.loadA (vs := [.bool ((rMake (ng x1) (dg x1.natAbs) (ng (tenI p1)) (dg (tenI p1).natAbs)).1), gs17x1, gs17x2]) (look_lit rfl) Tryz.isAgg30 Tryz.sizeOf30)) ?_
 have f76 := (fb4.ext c11).ext cw'17
 refine sx_store (vs := [.bool ((rMake (ng x1) (dg x1.natAbs) (ng (tenI p1)) (dg (tenI p1).natAbs)).1), gs17x1, gs17x2]) rfl rfl f76 rfl Tryz.sizeOf30 (nbl rfl) (one_cons rfl (one_cons xgs17x1.one (one_cons xgs17x2.one one_nil))) (fun w74 sw74 fw74 cw74 => ?_)
 have zw74 := cw74.size
 have gw74 : Blk w74 b4 [.bool ((rMake (ng x1) (dg x1.natAbs) (ng (tenI p1)) (dg (tenI p1).natAbs)).1), gs17x1, gs17x2] 30 := fw74
 refine wl_nil (q_n (k73 _ _ ?_))
 refine sx_retc ?_
 refine sx_ret1 Tryz.results73 ⟨_, rfl, gw74.loadA (vs := [.bool ((rMake (ng x1) (dg x1.natAbs) (ng (tenI p1)) (dg (tenI p1).natAbs)).1), gs17x1, gs17x2]) (look_lit rfl) Tryz.isAgg30 Tryz.sizeOf30⟩ ?_
 have hrl := dRat_len (n := ng x1) (z := dg x1.natAbs) (p := p1)
 rw [← dRat_make hD] at hrl ⊢
 have q77 := Chg.step (l := 0) (h := 0) (Chg.zero (l := 0) (h := 0) (((cb2.t cb4).t c11).t cw'17)) cw74 (by omega)
 have f78 := xgs17x1.chg cw74 (by omega)
 have f79 := xgs17x2.chg cw74 (by omega)
 exact ⟨_, _, _, _, _, _, rfl, f78, f79, by omega, hrl, q77⟩

theorem c_sNatGcd {w : World} {va : Value} {lva uva : Nat} {m : Nat} {vb : Value} {lvb uvb : Nat} {n : Nat} (hva : Sl w lva uva va (dg m)) (hvb : Sl w lvb uvb vb (dg n)) (hbm : (dg m).length ≤ 50) (hbn : (dg n).length ≤ 50) :
  Ret Tryz.prog 112 [va, vb] w fun v w' => ∃ s, v = s ∧ Sl w' (0) (w'.heap.size) s (dg (Nat.gcd m n)) ∧ Chg 0 0 w w' := by
 have hva0 := hva.fit
 have hvb0 := hvb.fit
 refine sx_enter Tryz.func112 rfl Tryz.ntmps112 (nbl rfl) ?_
 refine sx_seq fun K1 k1 => sx_region ?_
 refine av rfl rfl (wl_nil (q_n (k1 _ _ ?_)))
 refine sx_seq fun K2 k2 => ?_
 refine sx_seq fun K3 k3 => sx_region ?_
 refine mv rfl rfl (sx_call rfl rfl Tryz.call110 (c_sNatOk hva0 (by omega)) (fun v4 w4 p4 => ?_))
 obtain ⟨rfl, c4⟩ := p4
 have zw4 := c4.size
 refine sp rfl (px_notP rfl) ?_
 refine mv rfl rfl ?_
 have h61 : ¬ (¬ (NOk (dg m))) := fun h => h (NOk_dg (by omega))
 refine sx_tmpPF (t := 12) rfl h61 ?_
 refine sx_guardT rfl rfl rfl ?_
 refine mv rfl rfl ?_
 refine sx_guardT rfl rfl rfl ?_
 have f5 := hvb0.ext c4
 refine sx_call rfl rfl Tryz.call110 (c_sNatOk f5 (by omega)) (fun v6 w6 p6 => ?_)
 obtain ⟨rfl, c6⟩ := p6
 have zw6 := c6.size
 refine sx_guardT rfl rfl rfl ?_
 refine sp rfl (px_notP rfl) ?_
 refine sp rfl (px_pick rfl rfl) ?_
 refine wl_nil (q_n (k3 _ _ ?_))
 have h61x1 : ¬ (¬ (NOk (dg n))) := fun h => h (NOk_dg (by omega))
 refine sx_condPF rfl h61x1 ?_
 refine sx_skip ?_
 refine q_n (k2 _ _ ?_)
 refine sx_seq fun K7 k7 => sx_region ?_
 refine sx_lit0 rfl xelt26 (fun s8 ws8 ss8 fs8 cs8 => ?_)
 have zws8 := cs8.size
 refine mv rfl rfl ?_
 have f12 := ((hva0.ext c4).ext c6).ext cs8
 refine sx_append rfl xelt26 rfl rfl fs8 f12 one_int (by omega) (by first | omega | (simp only [List.length_nil]; omega)) (by unfold maxLen; first | omega | (simp only [List.length_nil]; omega)) (fun a9 w9 fw9 cw9 => ?_)
 have nw9 := Own.norm (f := (Value.int .i64)) (zs := dg m) fw9
 have zw9 := cw9.size
 refine av rfl rfl (wl_nil (q_n (k7 _ _ ?_)))
 refine sx_sub (Sub.c 1 rfl (.c 4 rfl (.c 5 rfl .nil))) ?_
 refine sx_seq fun K13 k13 => sx_region ?_
 refine sx_lit0 rfl xelt26 (fun s14 ws14 ss14 fs14 cs14 => ?_)
 have zws14 := cs14.size
 refine mv rfl rfl ?_
 have f17 := (f5.ext c6).ext cs8
 have f18 := f17.chg cw9 (by omega)
 have f19 := f18.ext cs14
 refine sx_append rfl xelt26 rfl rfl fs14 f19 one_int (by omega) (by first | omega | (simp only [List.length_nil]; omega)) (by unfold maxLen; first | omega | (simp only [List.length_nil]; omega)) (fun a15 w15 fw15 cw15 => ?_)
 have nw15 := Own.norm (f := (Value.int .i64)) (zs := dg n) fw15
 have zw15 := cw15.size
 refine av rfl rfl (wl_nil (q_n (k13 _ _ ?_)))
 refine sx_seq fun K20 k20 => ?_
 refine sx_block ?_
 have f22 := nw9.ext cs14
 have f23 := f22.chg cw15 (by omega)
 refine sx_loop (fun mm aa w' => ∃ (xa : Value) (xb : Value) (m2 : Nat) (n2 : Nat), Agr 35 [(5, xa), (6, xb)] aa ∧ Chg 0 0 w15 w' ∧ Sv w' 0 w'.heap.size xa ((dg m2).length) 1 ((dg m2).map (Value.int .i64)) ∧ Sv w' 0 w'.heap.size xb ((dg n2).length) 1 ((dg n2).map (Value.int .i64)) ∧ (mm = n2) ∧ (Nat.gcd m2 n2 = Nat.gcd m n) ∧ ((dg m2).length ≤ 400 ∧ (dg n2).length ≤ 400)) (_) (fun a ha => ⟨a9, a15, m, n, ha.sub (Sub.c 5 rfl (.c 6 rfl .nil)), Chg.refl _ _ _, (f23.sv.mono (by omega) (by omega)), (nw15.sv.mono (by omega) (by omega)), rfl, rfl, by omega⟩) ?_
 rintro mm aa wl21 ⟨xa, xb, m2, n2, hAwl21, cwl21, hs_xa, hs_xb, hm, hg, hl2⟩
 refine (show cw Tryz.prog 35 _ _ _ wl21 from ?_) aa hAwl21
 clear hAwl21
 have zwl21 := cwl21.size
 refine sx_seq fun K24 k24 => ?_
 refine sx_seq fun K25 k25 => sx_region ?_
 refine mv rfl rfl (sp rfl (px_len rfl Tryz.underlying26 hs_xb) ?_)
 refine sp rfl (px_gt rfl rfl) ?_
 refine wl_nil (q_n (k25 _ _ ?_))
 refine sx_condP rfl (fun h66 => ?_) (fun h66 => ?_)
 ·
  have hn0 : 0 < n2 := len_pos.1 (by omega)
  refine sx_skip ?_
  refine q_n (k24 _ _ ?_)
  refine sx_block ?_
  refine sx_seq fun K26 k26 => sx_region ?_
  refine mv rfl rfl (mv rfl rfl (sx_call rfl rfl Tryz.call115 (c_l03Div hs_xa hs_xb (by omega) (by omega) (by omega)) (fun v27 w27 p27 => ?_)))
  obtain ⟨s27, t27, rfl, os_27, ot_27, c27⟩ := p27
  have zw27 := c27.size
  refine mv rfl rfl (sp rfl (px_ex2 rfl rfl) ?_)
  refine sp rfl (px_ex2 rfl rfl) ?_
  refine av rfl rfl (av rfl rfl (wl_nil (q_n (k26 _ _ ?_))))
  refine sx_seq fun K28 k28 => sx_region ?_
  refine mv rfl rfl (av rfl rfl (wl_nil (q_n (k28 _ _ ?_))))
  refine sx_region ?_
  refine mv rfl rfl (av rfl rfl (wl_nil ?_))
  have f29 := hs_xb.ext c27
  have hml := Nat.mod_lt m2 hn0
  have hll := len_mod (m := m2) hn0
  exact q_bn (fun a ha => ⟨_, by omega, xb, t27, n2, (m2 % n2), ha.sub (Sub.c 5 rfl (.c 6 rfl .nil)), (cwl21.t c27), (f29.mono (by omega) (by omega)), (ot_27.mono (by omega) (by omega)), rfl, gcd_next.trans hg, by omega⟩)
 refine sx_exit ?_
 refine q_e (q_e (q_bx (q_n (k20 _ _ ?_))))
 refine sx_seq fun K30 k30 => sx_region ?_
 refine mv rfl rfl (av rfl rfl (wl_nil (q_n (k30 _ _ ?_))))
 refine sx_retc ?_
 refine sx_ret1 Tryz.results112 rfl ?_
 have e0 : n2 = 0 := len_zero.1 (by omega)
 subst e0
 rw [Nat.gcd_zero_right] at hg
 rw [← hg]
 have q31 := Chg.step (l := 0) (h := 0) (Chg.zero (l := 0) (h := 0) ((c4.t c6).t cs8)) cw9 (by omega)
 have q32 := Chg.step (l := 0) (h := 0) q31 cs14 (by omega)
 have q33 := Chg.step (l := 0) (h := 0) q32 cw15 (by omega)
 have q34 := Chg.step (l := 0) (h := 0) q33 cwl21 (by omega)
 exact ⟨_, rfl, (Sv.mono hs_xa (by omega) (by omega)), q34⟩

theorem c_sRatOk {w : World} {n1 : Bool} {v1 : Value} {lv1 uv1 : Nat} {z1 : List Int} {d1 : Value} {ld1 ud1 : Nat} {y1 : List Int} (hv1 : Sl w lv1 uv1 v1 (z1)) (hd1 : Sl w ld1 ud1 d1 (y1)) (h63 : z1.length ≤ 4611686018427387904 ∧ y1.length ≤ 4611686018427387904) :
  Ret Tryz.prog 74 [.agg #[.bool n1, v1, d1]] w fun v w' => v = .bool (decide (ROk n1 z1 y1)) ∧ Chg 0 0 w w' := by
 have hv10 := hv1.fit
 have hd10 := hd1.fit
 refine sx_enter Tryz.func74 rfl Tryz.ntmps74 (nbl rfl) ?_
 refine sx_seq fun K1 k1 => sx_region ?_
 refine sx_box [.bool n1, v1, d1] rfl rfl rfl (fun b2 w3 eb2 sb2 fb2 cb2 => ?_)
 have zw3 := cb2.size
 refine av rfl rfl (wl_nil (q_n (k1 _ _ ?_)))
 refine sx_seq fun K4 k4 => ?_
 refine sx_seq fun K5 k5 => sx_region ?_
 refine sp rfl (px_field rfl xfld30x0) ?_
 refine sp rfl (px_load rfl (fb2.loadA (vs := [.bool n1, v1]) (look_lit rfl) Tryz.isAgg28 Tryz.sizeOf28)) ?_
 have f6 := hv10.ext cb2
 refine sx_call rfl rfl Tryz.call95 (c_sIntOk f6 (by omega)) (fun v7 w7 p7 => ?_)
 obtain ⟨rfl, c7⟩ := p7
 have zw7 := c7.size
 refine sp rfl (px_notP rfl) ?_
 refine mv rfl rfl ?_
 refine sx_tmpP (t := 7) rfl (fun h7 => ?_) (fun h7 => ?_)
 ·
  refine sx_guardF rfl rfl rfl rfl rfl rfl ?_
  refine sx_guardF rfl rfl rfl rfl rfl rfl ?_
  refine sx_guardF rfl rfl rfl rfl rfl rfl ?_
  refine sx_guardF rfl rfl rfl rfl rfl rfl ?_
  refine sp rfl (px_pick rfl rfl) ?_
  refine mv rfl rfl ?_
  refine sx_guardF rfl rfl rfl rfl rfl rfl ?_
  refine sx_guardF rfl rfl rfl rfl rfl rfl ?_
  refine sx_guardF rfl rfl rfl rfl rfl rfl ?_
  refine sx_guardF rfl rfl rfl rfl rfl rfl ?_
  refine sp rfl (px_pick rfl rfl) ?_
  refine mv rfl rfl ?_
  refine sx_guardF rfl rfl rfl rfl rfl rfl ?_
  refine sx_guardF rfl rfl rfl rfl rfl rfl ?_
  refine sx_guardF rfl rfl rfl rfl rfl rfl ?_
  refine sx_guardF rfl rfl rfl rfl rfl rfl ?_
  refine sp rfl (px_pick rfl rfl) ?_
  refine mv rfl rfl ?_
  refine sx_guardF rfl rfl rfl rfl rfl rfl ?_
  refine sx_guardF rfl rfl rfl rfl rfl rfl ?_
  refine sx_guardF rfl rfl rfl rfl rfl rfl ?_
  refine sx_guardF rfl rfl rfl rfl rfl rfl ?_
  refine sx_guardF rfl rfl rfl rfl rfl rfl ?_
  refine sp rfl (px_pick rfl rfl) ?_
  refine wl_nil (q_n (k5 _ _ ?_))
  refine sx_sub (Sub.c 1 rfl (.c 2 rfl (.c 31 rfl .nil))) ?_
  refine sx_condT rfl ?_
  refine sx_seq fun K8 k8 => sx_region ?_
  refine av rfl rfl (wl_nil (q_n (k8 _ _ ?_)))
  refine sx_retc ?_
  refine q_r (sx_ret1 Tryz.results74 rfl ?_)
  exact ⟨(bFalse (by grind [ROk])), (cb2.t c7)⟩
 refine sx_guardT rfl rfl rfl ?_
 refine sp rfl (px_field rfl xfld30x1) ?_
 refine sx_guardT rfl rfl rfl ?_
 have f9 := fb2.ext c7
 refine sp rfl (px_load rfl (f9.load1 rfl Tryz.isAgg26)) ?_
 refine sx_guardT rfl rfl rfl ?_
 have f10 := hd10.ext cb2
 have f11 := f10.ext c7
 refine sx_call rfl rfl Tryz.call110 (c_sNatOk f11 (by omega)) (fun v12 w12 p12 => ?_)
 obtain ⟨rfl, c12⟩ := p12
 have zw12 := c12.size
 refine sx_guardT rfl rfl rfl ?_
 refine sp rfl (px_notP rfl) ?_
 refine sp rfl (px_pick rfl rfl) ?_
 refine mv rfl rfl ?_
 refine sx_tmpP (t := 13) rfl (fun h7x1 => ?_) (fun h7x1 => ?_)
 ·
  refine sx_guardF rfl rfl rfl rfl rfl rfl ?_
  refine sx_guardF rfl rfl rfl rfl rfl rfl ?_
  refine sx_guardF rfl rfl rfl rfl rfl rfl ?_
  refine sx_guardF rfl rfl rfl rfl rfl rfl ?_
  refine sp rfl (px_pick rfl rfl) ?_
  refine mv rfl rfl ?_
  refine sx_guardF rfl rfl rfl rfl rfl rfl ?_
  refine sx_guardF rfl rfl rfl rfl rfl rfl ?_
  refine sx_guardF rfl rfl rfl rfl rfl rfl ?_
  refine sx_guardF rfl rfl rfl rfl rfl rfl ?_
  refine sp rfl (px_pick rfl rfl) ?_
  refine mv rfl rfl ?_
  refine sx_guardF rfl rfl rfl rfl rfl rfl ?_
  refine sx_guardF rfl rfl rfl rfl rfl rfl ?_
  refine sx_guardF rfl rfl rfl rfl rfl rfl ?_
  refine sx_guardF rfl rfl rfl rfl rfl rfl ?_
  refine sx_guardF rfl rfl rfl rfl rfl rfl ?_
  refine sp rfl (px_pick rfl rfl) ?_
  refine wl_nil (q_n (k5 _ _ ?_))
  refine sx_sub (Sub.c 1 rfl (.c 2 rfl (.c 31 rfl .nil))) ?_
  refine sx_condT rfl ?_
  refine sx_seq fun K13 k13 => sx_region ?_
  refine av rfl rfl (wl_nil (q_n (k13 _ _ ?_)))
  refine sx_retc ?_
  refine q_r (sx_ret1 Tryz.results74 rfl ?_)
  exact ⟨(bFalse (by grind [ROk])), ((cb2.t c7).t c12)⟩
 refine sx_guardT rfl rfl rfl ?_
 refine sp rfl (px_field rfl xfld30x1) ?_
 refine sx_guardT rfl rfl rfl ?_
 have f14 := f9.ext c12
 refine sp rfl (px_load rfl (f14.load1 rfl Tryz.isAgg26)) ?_
 refine sx_guardT rfl rfl rfl ?_
 have f15 := f11.ext c12
 refine sp rfl (px_len rfl Tryz.underlying26 f15) ?_
 refine sx_guardT rfl rfl rfl ?_
 refine sp rfl (px_eq rfl rfl) ?_
 refine sp rfl (px_pick rfl rfl) ?_
 refine mv rfl rfl ?_
 refine sx_tmpP (t := 19) rfl (fun h7x2 => ?_) (fun h7x2 => ?_)
 ·
  refine sx_guardF rfl rfl rfl rfl rfl rfl ?_
  refine sx_guardF rfl rfl rfl rfl rfl rfl ?_
  refine sx_guardF rfl rfl rfl rfl rfl rfl ?_
  refine sx_guardF rfl rfl rfl rfl rfl rfl ?_
  refine sp rfl (px_pick rfl rfl) ?_
  refine mv rfl rfl ?_
  refine sx_guardF rfl rfl rfl rfl rfl rfl ?_
  refine sx_guardF rfl rfl rfl rfl rfl rfl ?_
  refine sx_guardF rfl rfl rfl rfl rfl rfl ?_
  refine sx_guardF rfl rfl rfl rfl rfl rfl ?_
  refine sx_guardF rfl rfl rfl rfl rfl rfl ?_
  refine sp rfl (px_pick rfl rfl) ?_
  refine wl_nil (q_n (k5 _ _ ?_))
  refine sx_sub (Sub.c 1 rfl (.c 2 rfl (.c 31 rfl .nil))) ?_
  refine sx_condT rfl ?_
  refine sx_seq fun K16 k16 => sx_region ?_
  refine av rfl rfl (wl_nil (q_n (k16 _ _ ?_)))
  refine sx_retc ?_
  refine q_r (sx_ret1 Tryz.results74 rfl ?_)
  exact ⟨(bFalse (by grind [ROk])), ((cb2.t c7).t c12)⟩
 refine sx_guardT rfl rfl rfl ?_
 refine sp rfl (px_field rfl xfld30x1) ?_
 refine sx_guardT rfl rfl rfl ?_
 refine sp rfl (px_load rfl (f14.load1 rfl Tryz.isAgg26)) ?_
 refine sx_guardT rfl rfl rfl ?_
 refine sp rfl (px_len rfl Tryz.underlying26 f15) ?_
 refine sx_guardT rfl rfl rfl ?_
 refine sp rfl (px_gt rfl rfl) ?_
 refine sp rfl (px_pick rfl rfl) ?_
 refine mv rfl rfl ?_
 refine sx_tmpP (t := 25) rfl (fun h7x3 => ?_) (fun h7x3 => ?_)
 ·
  refine sx_guardF rfl rfl rfl rfl rfl rfl ?_
  refine sx_guardF rfl rfl rfl rfl rfl rfl ?_
  refine sx_guardF rfl rfl rfl rfl rfl rfl ?_
  refine sx_guardF rfl rfl rfl rfl rfl rfl ?_
  refine sx_guardF rfl rfl rfl rfl rfl rfl ?_
  refine sp rfl (px_pick rfl rfl) ?_
  refine wl_nil (q_n (k5 _ _ ?_))
  refine sx_sub (Sub.c 1 rfl (.c 2 rfl (.c 31 rfl .nil))) ?_
  refine sx_condT rfl ?_
  refine sx_seq fun K17 k17 => sx_region ?_
  refine av rfl rfl (wl_nil (q_n (k17 _ _ ?_)))
  refine sx_retc ?_
  refine q_r (sx_ret1 Tryz.results74 rfl ?_)
  exact ⟨(bFalse (by grind [ROk])), ((cb2.t c7).t c12)⟩
 refine sx_guardT rfl rfl rfl ?_
 refine sp rfl (px_field rfl xfld30x0) ?_
 refine sx_guardT rfl rfl rfl ?_
 refine sp rfl (px_field rfl xfld28x1) ?_
 refine sx_guardT rfl rfl rfl ?_
 refine sp rfl (px_load rfl (f14.load1 rfl Tryz.isAgg26)) ?_
 refine sx_guardT rfl rfl rfl ?_
 have f19 := (f6.ext c7).ext c12
 refine sp rfl (px_len rfl Tryz.underlying26 f19) ?_
 refine sx_guardT rfl rfl rfl ?_
 refine sp rfl (px_gt rfl rfl) ?_
 refine sp rfl (px_pick rfl rfl) ?_
 refine wl_nil (q_n (k5 _ _ ?_))
 refine sx_sub (Sub.c 1 rfl (.c 2 rfl (.c 31 rfl .nil))) ?_
 refine sx_condP rfl (fun h7x4 => ?_) (fun h7x4 => ?_)
 ·
  refine sx_seq fun K20 k20 => sx_region ?_
  refine av rfl rfl (wl_nil (q_n (k20 _ _ ?_)))
  refine sx_retc ?_
  refine q_r (sx_ret1 Tryz.results74 rfl ?_)
  exact ⟨(bFalse (by grind [ROk])), ((cb2.t c7).t c12)⟩
 have hR1 := Decidable.not_not.1 h7
 have hR2 := Decidable.not_not.1 h7x1
 obtain ⟨x1, rfl, rfl, hx1⟩ := hR1.int
 obtain ⟨e1, rfl, he1⟩ := hR2.dg
 have he0 : 0 < e1 := len_pos.1 (by omega)
 have hk : ROk (ng x1) (dg x1.natAbs) (dg e1) ↔ dg (Nat.gcd x1.natAbs e1) = [1] := by rw [ROk_iff, dg_is_one]; exact ⟨fun h => h.2.2.2, fun h => ⟨he0, by omega, by omega, h⟩⟩
 refine sx_skip ?_
 refine q_n (k4 _ _ ?_)
 refine sx_seq fun K21 k21 => sx_region ?_
 refine sp rfl (px_field rfl xfld30x0) ?_
 refine sp rfl (px_field rfl xfld28x1) ?_
 refine sp rfl (px_load rfl (f14.load1 rfl Tryz.isAgg26)) ?_
 refine sp rfl (px_field rfl xfld30x1) ?_
 refine sp rfl (px_load rfl (f14.load1 rfl Tryz.isAgg26)) ?_
 refine sx_call rfl rfl Tryz.call112 (c_sNatGcd f19 f15 (by omega) (by omega)) (fun v22 w22 p22 => ?_)
 obtain ⟨s22, rfl, os_22, c22⟩ := p22
 have zw22 := c22.size
 refine sx_lit1 rfl xelt26 rfl rfl (fun s23 ws23 ss23 fs23 cs23 => ?_)
 have ns23 := Own.norm (f := (Value.int .i64)) (zs := [1]) fs23
 have zws23 := cs23.size
 have f24 := os_22.ext cs23
 refine sx_call rfl rfl Tryz.call111 (c_l02Cmp f24 ns23.sv (by have h9 := gcd_le_left (m := x1.natAbs) (n := e1) (k := 50) (by omega) (by omega); simp only [List.length_cons, List.length_nil]; omega)) (fun v25 w25 p25 => ?_)
 obtain ⟨rfl, c25⟩ := p25
 have zw25 := c25.size
 refine sp rfl (px_eq rfl rfl) ?_
 refine av rfl rfl (wl_nil (q_n (k21 _ _ ?_)))
 refine sx_retc ?_
 refine sx_ret1 Tryz.results74 rfl ?_
 exact ⟨(bIff ⟨fun h => hk.2 (cmpL_zero.1 h), fun h => cmpL_zero.2 (hk.1 h)⟩), (((((cb2.t c7).t c12).t c22).t cs23).t c25)⟩

theorem c_sRatDiv {w : World} {n1 : Bool} {v1 : Value} {lv1 uv1 : Nat} {z1 : List Int} {d1 : Value} {ld1 ud1 : Nat} {y1 : List Int} {n2 : Bool} {v2 : Value} {lv2 uv2 : Nat} {z2 : List Int} {d2 : Value} {ld2 ud2 : Nat} {y2 : List Int} (hv1 : Sl w lv1 uv1 v1 (z1)) (hd1 : Sl w ld1 ud1 d1 (y1)) (hv2 : Sl w lv2 uv2 v2 (z2)) (hd2 : Sl w ld2 ud2 d2 (y2)) (h63 : z1.length ≤ 4611686018427387904 ∧ y1.length ≤ 4611686018427387904 ∧ z2.length ≤ 4611686018427387904 ∧ y2.length ≤ 4611686018427387904) :
  Ret Tryz.prog 49 [.agg #[.bool n1, v1, d1], .agg #[.bool n2, v2, d2]] w fun v w' => ∃ s t ls us lt ut, v = .tuple #[.agg #[.bool ((rDiv n1 z1 y1 n2 z2 y2).1), s, t], .bool ((rDiv n1 z1 y1 n2 z2 y2).2.2.2)] ∧ OwnI w' (ls) (us) s intT ((rDiv n1 z1 y1 n2 z2 y2).2.1) ∧ OwnI w' (lt) (ut) t intT ((rDiv n1 z1 y1 n2 z2 y2).2.2.1) ∧ (w.heap.size ≤ ls ∧ us ≤ w'.heap.size ∧ w.heap.size ≤ lt ∧ ut ≤ w'.heap.size ∧ (us ≤ lt ∨ ut ≤ ls)) ∧ ((rDiv n1 z1 y1 n2 z2 y2).2.1.length ≤ 18 ∧ (rDiv n1 z1 y1 n2 z2 y2).2.2.1.length ≤ 18) ∧ Chg 0 0 w w' := by
 have hv10 := hv1.fit
 have hd10 := hd1.fit
 have hv20 := hv2.fit
 have hd20 := hd2.fit
 refine sx_enter Tryz.func49 rfl Tryz.ntmps49 (nbl rfl) ?_
 refine sx_seq fun K1 k1 => sx_region ?_
 refine sx_box [.bool n1, v1, d1] rfl rfl rfl (fun b2 w3 eb2 sb2 fb2 cb2 => ?_)
 have zw3 := cb2.size
 refine sx_box [.bool n2, v2, d2] rfl rfl rfl (fun b4 w5 eb4 sb4 fb4 cb4 => ?_)
 have zw5 := cb4.size
 refine sx_alloc [.bool false, (.slice none 0 0), (.slice none 0 0)] rfl Tryz.zeroValue30 rfl (fun b6 w7 eb6 sb6 fb6 cb6 => ?_)
 have zw7 := cb6.size
 refine av rfl rfl (wl_nil (q_n (k1 _ _ ?_)))
 refine sx_seq fun K8 k8 => ?_
 refine sx_seq fun K9 k9 => sx_region ?_
 have f10 := fb2.ext cb4
 have f11 := f10.ext cb6
 refine sp rfl (px_load rfl (f11.loadA (vs := [.bool n1, v1, d1]) (look_lit rfl) Tryz.isAgg30 Tryz.sizeOf30)) ?_
 have f12 := hv10.ext cb2
 have f13 := f12.ext cb4
 have f14 := f13.ext cb6
 have f15 := hd10.ext cb2
 have f16 := f15.ext cb4
 have f17 := f16.ext cb6
 refine sx_call rfl rfl Tryz.call74 (c_sRatOk f14 f17 (by omega)) (fun v18 w18 p18 => ?_)
 obtain ⟨rfl, c18⟩ := p18
 have zw18 := c18.size
 refine sp rfl (px_notP rfl) ?_
 refine mv rfl rfl ?_
 refine sx_tmpP (t := 9) rfl (fun h92 => ?_) (fun h92 => ?_)
 ·
  refine sx_guardF rfl rfl rfl rfl rfl rfl ?_
  refine sx_guardF rfl rfl rfl rfl rfl rfl ?_
  refine sx_guardF rfl rfl rfl rfl rfl rfl ?_
  refine sp rfl (px_pick rfl rfl) ?_
  refine wl_nil (q_n (k9 _ _ ?_))
  refine sx_condT rfl ?_
  refine sx_seq fun K19 k19 => sx_region ?_
  refine sp rfl (px_build rfl (xbld30x  _)) ?_
  have f21 := fb6.ext c18
  refine sx_store (vs := [.bool false, (.slice none 0 0), (.slice none 0 0)]) rfl rfl f21 rfl Tryz.sizeOf30 (nbl rfl) (o3 rfl rfl rfl) (fun w20 sw20 fw20 cw20 => ?_)
  have zw20 := cw20.size
  have gw20 : Blk w20 b6 [.bool false, (.slice none 0 0), (.slice none 0 0)] 30 := fw20
  refine av rfl rfl (wl_nil (q_n (k19 _ _ ?_)))
  refine sx_sub (Sub.c 2 rfl (.c 3 rfl (.c 4 rfl (.c 5 rfl .nil)))) ?_
  refine sx_retc ?_
  refine q_r (sx_ret2 Tryz.results49 ⟨_, rfl, gw20.loadA (vs := [.bool false, (.slice none 0 0), (.slice none 0 0)]) (look_lit rfl) Tryz.isAgg30 Tryz.sizeOf30⟩ rfl ?_)
  rw [rDiv_no (by grind)]
  have q22 := Chg.step (l := 0) (h := 0) (Chg.zero (l := 0) (h := 0) (((cb2.t cb4).t cb6).t c18)) cw20 (by omega)
  exact ⟨_, _, w.heap.size, w.heap.size, w.heap.size, w.heap.size, rfl, Own.nil _ _ _ _ _, Own.nil _ _ _ _ _, by omega, ⟨by simp [noR], by simp [noR]⟩, q22⟩
 refine sx_guardT rfl rfl rfl ?_
 have f23 := fb4.ext cb6
 have f24 := f23.ext c18
 refine sp rfl (px_load rfl (f24.loadA (vs := [.bool n2, v2, d2]) (look_lit rfl) Tryz.isAgg30 Tryz.sizeOf30)) ?_
 refine sx_guardT rfl rfl rfl ?_
 have f25 := hv20.ext cb2
 have f26 := f25.ext cb4
 have f27 := f26.ext cb6
 have f28 := f27.ext c18
 have f29 := hd20.ext cb2
 have f30 := f29.ext cb4
 have f31 := f30.ext cb6
 have f32 := f31.ext c18
 refine sx_call rfl rfl Tryz.call74 (c_sRatOk f28 f32 (by omega)) (fun v33 w33 p33 => ?_)
 obtain ⟨rfl, c33⟩ := p33
 have zw33 := c33.size
 refine sx_guardT rfl rfl rfl ?_
 refine sp rfl (px_notP rfl) ?_
 refine sp rfl (px_pick rfl rfl) ?_
 refine wl_nil (q_n (k9 _ _ ?_))
 refine sx_condP rfl (fun h92x1 => ?_) (fun h92x1 => ?_)
 ·
  refine sx_seq fun K34 k34 => sx_region ?_
  refine sp rfl (px_build rfl (xbld30x  _)) ?_
  have f37 := (fb6.ext c18).ext c33
  refine sx_store (vs := [.bool false, (.slice none 0 0), (.slice none 0 0)]) rfl rfl f37 rfl Tryz.sizeOf30 (nbl rfl) (o3 rfl rfl rfl) (fun w35 sw35 fw35 cw35 => ?_)
  have zw35 := cw35.size
  have gw35 : Blk w35 b6 [.bool false, (.slice none 0 0), (.slice none 0 0)] 30 := fw35
  refine av rfl rfl (wl_nil (q_n (k34 _ _ ?_)))
  refine sx_sub (Sub.c 2 rfl (.c 3 rfl (.c 4 rfl (.c 5 rfl .nil)))) ?_
  refine sx_retc ?_
  refine q_r (sx_ret2 Tryz.results49 ⟨_, rfl, gw35.loadA (vs := [.bool false, (.slice none 0 0), (.slice none 0 0)]) (look_lit rfl) Tryz.isAgg30 Tryz.sizeOf30⟩ rfl ?_)
  rw [rDiv_no (by grind)]
  have q38 := Chg.step (l := 0) (h := 0) (Chg.zero (l := 0) (h := 0) ((((cb2.t cb4).t cb6).t c18).t c33)) cw35 (by omega)
  exact ⟨_, _, w.heap.size, w.heap.size, w.heap.size, w.heap.size, rfl, Own.nil _ _ _ _ _, Own.nil _ _ _ _ _, by omega, ⟨by simp [noR], by simp [noR]⟩, q38⟩
 have hR1 := Decidable.not_not.1 h92
 have hR2 := Decidable.not_not.1 h92x1
 obtain ⟨x1, e1, rfl, rfl, rfl, hp1, hx1, hy1, hg1⟩ := hR1.rat
 obtain ⟨x2, e2, rfl, rfl, rfl, hp2, hx2, hy2, hg2⟩ := hR2.rat
 have l1 := len_mul x1.natAbs e2
 have l2 := len_mul x2.natAbs e1
 have l3 := len_mul e1 e2
 have a1 : (x1 * (e2 : Int)).natAbs = x1.natAbs * e2 := by rw [Int.natAbs_mul, Int.natAbs_natCast]
 have a2 : (x2 * (e1 : Int)).natAbs = x2.natAbs * e1 := by rw [Int.natAbs_mul, Int.natAbs_natCast]
 have l4 := len_addI (x1 * (e2 : Int)) (x2 * (e1 : Int))
 rw [a1, a2] at l4
 have l5 := len_mul e1 x2.natAbs
 have l6 := len_mul x1.natAbs x2.natAbs
 refine sx_skip ?_
 refine q_n (k8 _ _ ?_)
 refine sx_seq fun K39 k39 => ?_
 have f41 := (f11.ext c18).ext c33
 have f42 := f24.ext c33
 refine dx_region (fun w' => Chg b6 (b6 + 1) w33 w') (by kernel_rfl) (Chg.zero (Chg.drew _)) ?_
 have d49 := Chg.drew w33
 have s49 : Chg b6 (b6 + 1) w33 (World.drew w33) := Chg.zero (Chg.drew _)
 have y49 : (World.drew w33).heap.size = w33.heap.size := rfl
 generalize World.drew w33 = w49 at *
 have zw49 := d49.size
 refine dt 0 rfl rfl rfl rfl s49 (fun _ hS => px_field rfl xfld30x0) ?_
 refine dt 1 rfl rfl rfl rfl s49 (fun _ hS => px_field rfl xfld28x0) ?_
 refine dt 2 rfl rfl rfl rfl s49 (fun _ hS => px_load rfl ((f41.chg hS (by omega)).load1 rfl Tryz.isAgg4)) ?_
 refine dt 3 rfl rfl rfl rfl s49 (fun _ hS => px_field rfl xfld30x0) ?_
 refine dt 4 rfl rfl rfl rfl s49 (fun _ hS => px_field rfl xfld28x0) ?_
 refine dt 5 rfl rfl rfl rfl s49 (fun _ hS => px_load rfl ((f42.chg hS (by omega)).load1 rfl Tryz.isAgg4)) ?_
 refine dt 6 rfl rfl rfl rfl s49 (fun _ hS => px_neB Tryz.underlying4 rfl rfl) ?_
 refine dt 7 rfl rfl rfl rfl s49 (fun _ hS => px_field rfl xfld30x0) ?_
 refine dt 8 rfl rfl rfl rfl s49 (fun _ hS => px_field rfl xfld28x1) ?_
 refine dt 9 rfl rfl rfl rfl s49 (fun _ hS => px_load rfl ((f41.chg hS (by omega)).load1 rfl Tryz.isAgg26)) ?_
 refine dt 10 rfl rfl rfl rfl s49 (fun _ hS => px_field rfl xfld30x1) ?_
 refine dt 11 rfl rfl rfl rfl s49 (fun _ hS => px_load rfl ((f42.chg hS (by omega)).load1 rfl Tryz.isAgg26)) ?_
 refine dt 13 rfl rfl rfl rfl s49 (fun _ hS => px_field rfl xfld30x1) ?_
 refine dt 14 rfl rfl rfl rfl s49 (fun _ hS => px_load rfl ((f41.chg hS (by omega)).load1 rfl Tryz.isAgg26)) ?_
 refine dt 15 rfl rfl rfl rfl s49 (fun _ hS => px_field rfl xfld30x0) ?_
 refine dt 16 rfl rfl rfl rfl s49 (fun _ hS => px_field rfl xfld28x1) ?_
 refine dt 17 rfl rfl rfl rfl s49 (fun _ hS => px_load rfl ((f42.chg hS (by omega)).load1 rfl Tryz.isAgg26)) ?_
 refine dx_eff 12 rfl (by kernel_rfl) ?_
 have f50 := ((f14.ext c18).ext c33).ext d49
 have f51 := (f32.ext c33).ext d49
 refine sx_call rfl rfl Tryz.call76 (c_l02Mul f50 f51 (by omega) (by omega)) (fun v52 w52 p52 => ?_)
 obtain ⟨s52, rfl, os_52, c52⟩ := p52
 have zw52 := c52.size
 have s53 : Chg b6 (b6 + 1) w33 w52 := (Chg.zero (l := b6) (h := (b6 + 1)) (d49.t c52))
 refine wl_nil ?_
 refine dx_next s53 ?_
 refine dx_eff 18 rfl (by kernel_rfl) ?_
 have f55 := (((f17.ext c18).ext c33).ext d49).ext c52
 have f57 := ((f28.ext c33).ext d49).ext c52
 refine sx_call rfl rfl Tryz.call76 (c_l02Mul f55 f57 (by omega) (by omega)) (fun v58 w58 p58 => ?_)
 obtain ⟨s58, rfl, os_58, c58⟩ := p58
 have zw58 := c58.size
 have s59 : Chg b6 (b6 + 1) w33 w58 := (Chg.zero (l := b6) (h := (b6 + 1)) ((d49.t c52).t c58))
 refine wl_nil ?_
 refine dx_next s59 ?_
 refine dx_eff 19 rfl (by kernel_rfl) ?_
 have f60 := os_52.ext c58
 refine sx_call rfl rfl Tryz.call75 (c_l05Low f60 os_58 (by omega) (by omega)) (fun v61 w61 p61 => ?_)
 obtain ⟨s61, t61, ls61, us61, lt61, ut61, rfl, os_61, ot_61, hd61, hl61, c61⟩ := p61
 have zw61 := c61.size
 have s62 : Chg b6 (b6 + 1) w33 w61 := (Chg.zero (l := b6) (h := (b6 + 1)) (((d49.t c52).t c58).t c61))
 refine wl_nil ?_
 refine dx_next s62 ?_
 refine dt 20 rfl rfl rfl rfl s62 (fun _ hS => px_ex2 rfl rfl) ?_
 refine dt 21 rfl rfl rfl rfl s62 (fun _ hS => px_ex2 rfl rfl) ?_
 refine dx_eff 22 rfl (by kernel_rfl) ?_
 have f69 := (((((fb6.ext c18).ext c33).ext d49).ext c52).ext c58).ext c61
 refine sx_store (vs := [.bool ((rR (sgI ((ng x1) != (ng x2)) (x1.natAbs * e2)) (e1 * x2.natAbs)).1), s61, t61]) rfl rfl f69 rfl Tryz.sizeOf30 (nbl rfl) (one_cons rfl (one_cons os_61.one (one_cons ot_61.one one_nil))) (fun w63 sw63 fw63 cw63 => ?_)
 have zw63 := cw63.size
 have gw63 : Blk w63 b6 [.bool ((rR (sgI ((ng x1) != (ng x2)) (x1.natAbs * e2)) (e1 * x2.natAbs)).1), s61, t61] 30 := fw63
 have q71 := Chg.step (l := b6) (h := (b6 + 1)) (Chg.zero (l := b6) (h := (b6 + 1)) (((d49.t c52).t c58).t c61)) cw63 (by omega)
 have s70 : Chg b6 (b6 + 1) w33 w63 := q71
 refine wl_nil ?_
 refine dx_next s70 ?_
 refine dt 23 rfl rfl rfl rfl s70 (fun _ hS => px_assign rfl) ?_
 refine dx_done (by kernel_rfl) ?_
 refine q_n (k39 _ _ ?_)
 refine sx_sub (Sub.c 4 rfl (.c 5 rfl .nil)) ?_
 refine sx_retc ?_
 refine sx_ret2 Tryz.results49 ⟨_, rfl, gw63.loadA (vs := [.bool ((rR (sgI ((ng x1) != (ng x2)) (x1.natAbs * e2)) (e1 * x2.natAbs)).1), s61, t61]) (look_lit rfl) Tryz.isAgg30 Tryz.sizeOf30⟩ rfl ?_
 have hrl := rDiv_len (n1 := ng x1) (z1 := dg x1.natAbs) (y1 := dg e1) (n2 := ng x2) (z2 := dg x2.natAbs) (y2 := dg e2)
 rw [rDiv_ok hR1 hR2] at hrl ⊢
 have q72 := Chg.step (l := 0) (h := 0) (Chg.zero (l := 0) (h := 0) ((((((((cb2.t cb4).t cb6).t c18).t c33).t d49).t c52).t c58).t c61)) cw63 (by omega)
 have f73 := os_61.chg cw63 (by omega)
 have f74 := ot_61.chg cw63 (by omega)
 exact ⟨_, _, _, _, _, _, rfl, f73, f74, by omega, hrl, q72⟩

theorem c_l10Step {w : World} {pv : ByteArray} {vt : Value} {lvt uvt : Nat} {ts : List Rt} {vvt : List Value} {a : ByteArray} {b : ByteArray} (hvt : RtS w lvt uvt vt ts vvt) (h63 : ts.length ≤ 4611686018427387904) (hz : ∀ i, i < ts.length → (ts.getD i rt0).2.2.2.1.length ≤ 4611686018427387904) (hall : AllTo ts ts.length) (hleg : leg ts a b ≠ 0) :
  Ret Tryz.prog 31 [.agg #[.string pv, vt], .string a, .string b] w fun v w' => ∃ s t ls us lt ut, v = .agg #[.bool ((stp ts a b).1), s, t] ∧ OwnI w' (ls) (us) s intT ((stp ts a b).2.1) ∧ OwnI w' (lt) (ut) t intT ((stp ts a b).2.2.1) ∧ (w.heap.size ≤ ls ∧ us ≤ w'.heap.size ∧ w.heap.size ≤ lt ∧ ut ≤ w'.heap.size ∧ (us ≤ lt ∨ ut ≤ ls)) ∧ ((stp ts a b).2.1.length ≤ 18 ∧ (stp ts a b).2.2.1.length ≤ 18) ∧ Chg 0 0 w w' := by
 have hvt0 := hvt.fit
 have har := atI_range (ts := ts) (a := a) (b := b)
 have hbr := atI_range (ts := ts) (a := b) (b := a)
 have hla := leg_at hleg
 refine sx_enter Tryz.func31 rfl Tryz.ntmps31 (nbl rfl) ?_
 refine sx_seq fun K1 k1 => sx_region ?_
 refine sx_box [.string pv, vt] rfl rfl rfl (fun b2 w3 eb2 sb2 fb2 cb2 => ?_)
 have zw3 := cb2.size
 refine sx_alloc [.bool false, (.slice none 0 0), (.slice none 0 0)] rfl Tryz.zeroValue30 rfl (fun b4 w5 eb4 sb4 fb4 cb4 => ?_)
 have zw5 := cb4.size
 refine wl_nil (q_n (k1 _ _ ?_))
 refine sx_seq fun K6 k6 => sx_region ?_
 refine sp rfl (px_field rfl xfld35x1) ?_
 have f7 := fb2.ext cb4
 refine sp rfl (px_load rfl (f7.load1 rfl Tryz.isAgg33)) ?_
 refine mv rfl rfl (mv rfl rfl ?_)
 have f8 := hvt0.ext cb2
 have f9 := f8.ext cb4
 refine sx_call rfl rfl Tryz.call72 (c_l10At f9 (by omega)) (fun v10 w10 p10 => ?_)
 obtain ⟨rfl, c10⟩ := p10
 have zw10 := c10.size
 refine av rfl rfl (wl_nil (q_n (k6 _ _ ?_)))
 refine sx_seq fun K11 k11 => ?_
 refine sx_seq fun K12 k12 => sx_region ?_
 refine mv rfl rfl (sp rfl (px_ge rfl rfl) ?_)
 refine wl_nil (q_n (k12 _ _ ?_))
 refine sx_condP rfl (fun h94 => ?_) (fun h94 => ?_)
 ·
  refine sx_seq fun K13 k13 => sx_region ?_
  refine sp rfl (px_field rfl xfld35x1) ?_
  have f14 := f7.ext c10
  refine sp rfl (px_load rfl (f14.load1 rfl Tryz.isAgg33)) ?_
  refine mv rfl rfl ?_
  have f15 := f9.ext c10
  refine sp rfl (px_indexK (j := (atI ts a b).toNat) rfl rfl (by omega) Tryz.underlying33 Tryz.sizeOf99 f15.sv (by omega)) ?_
  refine sp rfl (px_field rfl xfld99x2) ?_
  refine sp rfl (px_load rfl (f15.sv.loadA (rt_lookD (rt_look f15.len (by omega))) Tryz.isAgg63 Tryz.sizeOf63)) ?_
  refine sx_call rfl rfl Tryz.call73 (c_sDecRat (f15.nest ((atI ts a b).toNat) (by omega)) (hz _ (by omega))) (fun v16 w16 p16 => ?_)
  obtain ⟨s16, t16, ls16, us16, lt16, ut16, rfl, os_16, ot_16, hd16, hl16, c16⟩ := p16
  have zw16 := c16.size
  have f19 := (fb4.ext c10).ext c16
  refine sx_store (vs := [.bool ((dRat ((ts.getD ((atI ts a b).toNat) rt0).2.2.1) ((ts.getD ((atI ts a b).toNat) rt0).2.2.2.1) ((ts.getD ((atI ts a b).toNat) rt0).2.2.2.2)).1), s16, t16]) rfl rfl f19 rfl Tryz.sizeOf30 (nbl rfl) (one_cons rfl (one_cons os_16.one (one_cons ot_16.one one_nil))) (fun w17 sw17 fw17 cw17 => ?_)
  have zw17 := cw17.size
  have gw17 : Blk w17 b4 [.bool ((dRat ((ts.getD ((atI ts a b).toNat) rt0).2.2.1) ((ts.getD ((atI ts a b).toNat) rt0).2.2.2.1) ((ts.getD ((atI ts a b).toNat) rt0).2.2.2.2)).1), s16, t16] 30 := fw17
  refine wl_nil (q_n (k13 _ _ ?_))
  refine sx_sub (Sub.c 1 rfl (.c 2 rfl (.c 3 rfl (.c 6 rfl .nil)))) ?_
  refine sx_retc ?_
  refine q_r (sx_ret1 Tryz.results31 ⟨_, rfl, gw17.loadA (vs := [.bool ((dRat ((ts.getD ((atI ts a b).toNat) rt0).2.2.1) ((ts.getD ((atI ts a b).toNat) rt0).2.2.2.1) ((ts.getD ((atI ts a b).toNat) rt0).2.2.2.2)).1), s16, t16]) (look_lit rfl) Tryz.isAgg30 Tryz.sizeOf30⟩ ?_)
  have hrl := stp_len (ts := ts) (a := a) (b := b)
  rw [stp_2 h94] at hrl ⊢
  have q20 := Chg.step (l := 0) (h := 0) (Chg.zero (l := 0) (h := 0) (((cb2.t cb4).t c10).t c16)) cw17 (by omega)
  have f21 := os_16.chg cw17 (by omega)
  have f22 := ot_16.chg cw17 (by omega)
  exact ⟨_, _, _, _, _, _, rfl, f21, f22, by omega, hrl, q20⟩
 refine sx_skip ?_
 refine q_n (k11 _ _ ?_)
 refine sx_seq fun K23 k23 => sx_region ?_
 refine sx_call rfl rfl Tryz.call30 (c_sIntOf (by omega)) (fun v24 w24 p24 => ?_)
 obtain ⟨s24, rfl, os_24, c24⟩ := p24
 have zw24 := c24.size
 refine sx_call rfl rfl Tryz.call29 (c_sRatInt os_24.sv (by have h9 := len_i64 (n := 1) (by omega); omega)) (fun v25 w25 p25 => ?_)
 obtain ⟨s25, t25, ls25, us25, lt25, ut25, rfl, os_25, ot_25, hd25, hl25, c25⟩ := p25
 have zw25 := c25.size
 refine mv rfl rfl (sp rfl (px_ex2 rfl rfl) ?_)
 refine sp rfl (px_ex2 rfl rfl) ?_
 refine sx_alloc [.bool false, (.slice none 0 0), (.slice none 0 0)] rfl Tryz.zeroValue30 rfl (fun b26 w27 eb26 sb26 fb26 cb26 => ?_)
 have zw27 := cb26.size
 have f29 := ot_25.ext cb26
 have f30 := os_25.ext cb26
 refine sx_store (vs := [.bool ((rInt (ng (1 : Int)) (dg ((1 : Int)).natAbs)).1), s25, t25]) rfl rfl fb26 rfl Tryz.sizeOf30 (nbl rfl) (one_cons rfl (one_cons f30.one (one_cons f29.one one_nil))) (fun w28 sw28 fw28 cw28 => ?_)
 have zw28 := cw28.size
 have gw28 : Blk w28 b26 [.bool ((rInt (ng (1 : Int)) (dg ((1 : Int)).natAbs)).1), s25, t25] 30 := fw28
 refine av rfl rfl (wl_nil (q_n (k23 _ _ ?_)))
 refine sx_sub (Sub.c 1 rfl (.c 2 rfl (.c 3 rfl (.c 6 rfl (.c 8 rfl .nil))))) ?_
 refine sx_seq fun K31 k31 => ?_
 refine sx_cut k31 (fun fr w' => ∃ (gb32x0 : Nat) (gs32x1 : Value) (gl32x1 : Nat) (gu32x1 : Nat) (gs32x2 : Value) (gl32x2 : Nat) (gu32x2 : Nat), fr = [(6, .pointer (some ⟨b4, 0, none⟩)), (10, .pointer (some ⟨gb32x0, 0, none⟩))] ∧ Chg 0 0 w28 w' ∧ (Blk w' gb32x0 [.bool ((rDiv ((rInt (ng (1 : Int)) (dg ((1 : Int)).natAbs)).1) ((rInt (ng (1 : Int)) (dg ((1 : Int)).natAbs)).2.1) ((rInt (ng (1 : Int)) (dg ((1 : Int)).natAbs)).2.2.1) ((dRat ((ts.getD ((atI ts b a).toNat) rt0).2.2.1) ((ts.getD ((atI ts b a).toNat) rt0).2.2.2.1) ((ts.getD ((atI ts b a).toNat) rt0).2.2.2.2)).1) ((dRat ((ts.getD ((atI ts b a).toNat) rt0).2.2.1) ((ts.getD ((atI ts b a).toNat) rt0).2.2.2.1) ((ts.getD ((atI ts b a).toNat) rt0).2.2.2.2)).2.1) ((dRat ((ts.getD ((atI ts b a).toNat) rt0).2.2.1) ((ts.getD ((atI ts b a).toNat) rt0).2.2.2.1) ((ts.getD ((atI ts b a).toNat) rt0).2.2.2.2)).2.2.1)).1), gs32x1, gs32x2] 30) ∧ (Own w' gl32x1 gu32x1 gs32x1 intT (((rDiv ((rInt (ng (1 : Int)) (dg ((1 : Int)).natAbs)).1) ((rInt (ng (1 : Int)) (dg ((1 : Int)).natAbs)).2.1) ((rInt (ng (1 : Int)) (dg ((1 : Int)).natAbs)).2.2.1) ((dRat ((ts.getD ((atI ts b a).toNat) rt0).2.2.1) ((ts.getD ((atI ts b a).toNat) rt0).2.2.2.1) ((ts.getD ((atI ts b a).toNat) rt0).2.2.2.2)).1) ((dRat ((ts.getD ((atI ts b a).toNat) rt0).2.2.1) ((ts.getD ((atI ts b a).toNat) rt0).2.2.2.1) ((ts.getD ((atI ts b a).toNat) rt0).2.2.2.2)).2.1) ((dRat ((ts.getD ((atI ts b a).toNat) rt0).2.2.1) ((ts.getD ((atI ts b a).toNat) rt0).2.2.2.1) ((ts.getD ((atI ts b a).toNat) rt0).2.2.2.2)).2.2.1)).2.1).length) 1 (((rDiv ((rInt (ng (1 : Int)) (dg ((1 : Int)).natAbs)).1) ((rInt (ng (1 : Int)) (dg ((1 : Int)).natAbs)).2.1) ((rInt (ng (1 : Int)) (dg ((1 : Int)).natAbs)).2.2.1) ((dRat ((ts.getD ((atI ts b a).toNat) rt0).2.2.1) ((ts.getD ((atI ts b a).toNat) rt0).2.2.2.1) ((ts.getD ((atI ts b a).toNat) rt0).2.2.2.2)).1) ((dRat ((ts.getD ((atI ts b a).toNat) rt0).2.2.1) ((ts.getD ((atI ts b a).toNat) rt0).2.2.2.1) ((ts.getD ((atI ts b a).toNat) rt0).2.2.2.2)).2.1) ((dRat ((ts.getD ((atI ts b a).toNat) rt0).2.2.1) ((ts.getD ((atI ts b a).toNat) rt0).2.2.2.1) ((ts.getD ((atI ts b a).toNat) rt0).2.2.2.2)).2.2.1)).2.1).map (Value.int .i64))) ∧ (Own w' gl32x2 gu32x2 gs32x2 intT (((rDiv ((rInt (ng (1 : Int)) (dg ((1 : Int)).natAbs)).1) ((rInt (ng (1 : Int)) (dg ((1 : Int)).natAbs)).2.1) ((rInt (ng (1 : Int)) (dg ((1 : Int)).natAbs)).2.2.1) ((dRat ((ts.getD ((atI ts b a).toNat) rt0).2.2.1) ((ts.getD ((atI ts b a).toNat) rt0).2.2.2.1) ((ts.getD ((atI ts b a).toNat) rt0).2.2.2.2)).1) ((dRat ((ts.getD ((atI ts b a).toNat) rt0).2.2.1) ((ts.getD ((atI ts b a).toNat) rt0).2.2.2.1) ((ts.getD ((atI ts b a).toNat) rt0).2.2.2.2)).2.1) ((dRat ((ts.getD ((atI ts b a).toNat) rt0).2.2.1) ((ts.getD ((atI ts b a).toNat) rt0).2.2.2.1) ((ts.getD ((atI ts b a).toNat) rt0).2.2.2.2)).2.2.1)).2.2.1).length) 1 (((rDiv ((rInt (ng (1 : Int)) (dg ((1 : Int)).natAbs)).1) ((rInt (ng (1 : Int)) (dg ((1 : Int)).natAbs)).2.1) ((rInt (ng (1 : Int)) (dg ((1 : Int)).natAbs)).2.2.1) ((dRat ((ts.getD ((atI ts b a).toNat) rt0).2.2.1) ((ts.getD ((atI ts b a).toNat) rt0).2.2.2.1) ((ts.getD ((atI ts b a).toNat) rt0).2.2.2.2)).1) ((dRat ((ts.getD ((atI ts b a).toNat) rt0).2.2.1) ((ts.getD ((atI ts b a).toNat) rt0).2.2.2.1) ((ts.getD ((atI ts b a).toNat) rt0).2.2.2.2)).2.1) ((dRat ((ts.getD ((atI ts b a).toNat) rt0).2.2.1) ((ts.getD ((atI ts b a).toNat) rt0).2.2.2.1) ((ts.getD ((atI ts b a).toNat) rt0).2.2.2.2)).2.2.1)).2.2.1).map (Value.int .i64))) ∧ (w28.heap.size ≤ gb32x0 ∧ gb32x0 + 1 ≤ w'.heap.size) ∧ (w28.heap.size ≤ gl32x1 ∧ gu32x1 ≤ w'.heap.size) ∧ (w28.heap.size ≤ gl32x2 ∧ gu32x2 ≤ w'.heap.size) ∧ (gu32x1 ≤ gb32x0 ∨ gb32x0 + 1 ≤ gl32x1) ∧ (gu32x2 ≤ gb32x0 ∨ gb32x0 + 1 ≤ gl32x2) ∧ (gu32x2 ≤ gl32x1 ∨ gu32x1 ≤ gl32x2)) (fun kc32 => ?_) ?_
 ·
  have f36 := (((f7.ext c10).ext c24).ext c25).ext cb26
  have f37 := f36.chg cw28 (by omega)
  have f41 := (((fb4.ext c10).ext c24).ext c25).ext cb26
  have f42 := f41.chg cw28 (by omega)
  have f46 := (((f9.ext c10).ext c24).ext c25).ext cb26
  have f47 := f46.chg cw28 (by omega)
  have f49 := (os_24.ext c25).ext cb26
  have f50 := f49.chg cw28 (by omega)
  have f51 := f30.chg cw28 (by omega)
  have f52 := f29.chg cw28 (by omega)
  refine dx_region (fun w' => Chg 0 0 w28 w') (by kernel_rfl) (Chg.zero (Chg.drew _)) ?_
  have d53 := Chg.drew w28
  have s53 : Chg 0 0 w28 (World.drew w28) := Chg.zero (Chg.drew _)
  have y53 : (World.drew w28).heap.size = w28.heap.size := rfl
  generalize World.drew w28 = w53 at *
  have zw53 := d53.size
  refine dt 0 rfl rfl rfl rfl s53 (fun _ hS => px_load rfl ((gw28.chg hS (by omega)).loadA (vs := [.bool ((rInt (ng (1 : Int)) (dg ((1 : Int)).natAbs)).1), s25, t25]) (look_lit rfl) Tryz.isAgg30 Tryz.sizeOf30)) ?_
  refine dt 1 rfl rfl rfl rfl s53 (fun _ hS => px_field rfl xfld35x1) ?_
  refine dt 2 rfl rfl rfl rfl s53 (fun _ hS => px_load rfl ((f37.chg hS (by omega)).load1 rfl Tryz.isAgg33)) ?_
  refine dt 3 rfl rfl rfl rfl s53 (fun _ hS => px_field rfl xfld35x1) ?_
  refine dt 4 rfl rfl rfl rfl s53 (fun _ hS => px_load rfl ((f37.chg hS (by omega)).load1 rfl Tryz.isAgg33)) ?_
  refine dt 5 rfl rfl rfl rfl s53 (fun _ hS => px_move rfl) ?_
  refine dt 6 rfl rfl rfl rfl s53 (fun _ hS => px_move rfl) ?_
  refine dx_eff2 7 16 rfl rfl (by kernel_rfl) ?_ ?_
  ·
   have f54 := f47.ext d53
   refine sx_call rfl rfl Tryz.call72 (c_l10At f54 (by omega)) (fun v55 w55 p55 => ?_)
   obtain ⟨rfl, c55⟩ := p55
   have zw55 := c55.size
   have s56 : Chg 0 0 w28 w55 := (d53.t c55)
   refine wl_nil ?_
   refine dx_next s56 ?_
   refine dt 8 rfl rfl rfl rfl s56 (fun _ hS => px_indexK (j := (atI ts b a).toNat) rfl rfl (by omega) Tryz.underlying33 Tryz.sizeOf99 ((f47.sv).chg hS (by omega)) (by omega)) ?_
   refine dt 9 rfl rfl rfl rfl s56 (fun _ hS => px_field rfl xfld99x2) ?_
   refine dt 10 rfl rfl rfl rfl s56 (fun _ hS => px_load rfl (((f47.sv).chg hS (by omega)).loadA (rt_lookD (rt_look f54.len (by omega))) Tryz.isAgg63 Tryz.sizeOf63)) ?_
   refine dx_eff2 11 16 rfl rfl (by kernel_rfl) ?_ ?_
   ·
    have f57 := (f54.nest ((atI ts b a).toNat) (by omega)).ext c55
    refine sx_call rfl rfl Tryz.call73 (c_sDecRat f57 (hz _ (by omega))) (fun v58 w58 p58 => ?_)
    obtain ⟨s58, t58, ls58, us58, lt58, ut58, rfl, os_58, ot_58, hd58, hl58, c58⟩ := p58
    have zw58 := c58.size
    have s59 : Chg 0 0 w28 w58 := ((d53.t c55).t c58)
    refine wl_nil ?_
    refine dx_next s59 ?_
    refine dx_eff2 12 16 rfl rfl (by kernel_rfl) ?_ ?_
    ·
     have f62 := ((f51.ext d53).ext c55).ext c58
     have f65 := ((f52.ext d53).ext c55).ext c58
     refine sx_call rfl rfl Tryz.call49 (c_sRatDiv f62.sv f65.sv os_58.sv ot_58.sv (by omega)) (fun v66 w66 p66 => ?_)
     obtain ⟨s66, t66, ls66, us66, lt66, ut66, rfl, os_66, ot_66, hd66, hl66, c66⟩ := p66
     have zw66 := c66.size
     have s67 : Chg 0 0 w28 w66 := (((d53.t c55).t c58).t c66)
     refine wl_nil ?_
     refine dx_next s67 ?_
     refine dt 13 rfl rfl rfl rfl s67 (fun _ hS => px_move rfl) ?_
     refine dt 14 rfl rfl rfl rfl s67 (fun _ hS => px_ex2 rfl rfl) ?_
     refine dt 15 rfl rfl rfl rfl s67 (fun _ hS => px_ex2 rfl rfl) ?_
     refine dx_eff 16 rfl (by kernel_rfl) ?_
     refine sx_alloc [.bool false, (.slice none 0 0), (.slice none 0 0)] rfl Tryz.zeroValue30 rfl (fun b68 w69 eb68 sb68 fb68 cb68 => ?_)
     have zw69 := cb68.size
     have s70 : Chg 0 0 w28 w69 := ((((d53.t c55).t c58).t c66).t cb68)
     refine wl_nil ?_
     refine dx_next s70 ?_
     refine dx_eff 17 rfl (by kernel_rfl) ?_
     have f72 := ot_66.ext cb68
     have f73 := os_66.ext cb68
     refine sx_store (vs := [.bool ((rDiv ((rInt (ng (1 : Int)) (dg ((1 : Int)).natAbs)).1) ((rInt (ng (1 : Int)) (dg ((1 : Int)).natAbs)).2.1) ((rInt (ng (1 : Int)) (dg ((1 : Int)).natAbs)).2.2.1) ((dRat ((ts.getD ((atI ts b a).toNat) rt0).2.2.1) ((ts.getD ((atI ts b a).toNat) rt0).2.2.2.1) ((ts.getD ((atI ts b a).toNat) rt0).2.2.2.2)).1) ((dRat ((ts.getD ((atI ts b a).toNat) rt0).2.2.1) ((ts.getD ((atI ts b a).toNat) rt0).2.2.2.1) ((ts.getD ((atI ts b a).toNat) rt0).2.2.2.2)).2.1) ((dRat ((ts.getD ((atI ts b a).toNat) rt0).2.2.1) ((ts.getD ((atI ts b a).toNat) rt0).2.2.2.1) ((ts.getD ((atI ts b a).toNat) rt0).2.2.2.2)).2.2.1)).1), s66, t66]) rfl rfl fb68 rfl Tryz.sizeOf30 (nbl rfl) (one_cons rfl (one_cons f73.one (one_cons f72.one one_nil))) (fun w71 sw71 fw71 cw71 => ?_)
     have zw71 := cw71.size
     have gw71 : Blk w71 b68 [.bool ((rDiv ((rInt (ng (1 : Int)) (dg ((1 : Int)).natAbs)).1) ((rInt (ng (1 : Int)) (dg ((1 : Int)).natAbs)).2.1) ((rInt (ng (1 : Int)) (dg ((1 : Int)).natAbs)).2.2.1) ((dRat ((ts.getD ((atI ts b a).toNat) rt0).2.2.1) ((ts.getD ((atI ts b a).toNat) rt0).2.2.2.1) ((ts.getD ((atI ts b a).toNat) rt0).2.2.2.2)).1) ((dRat ((ts.getD ((atI ts b a).toNat) rt0).2.2.1) ((ts.getD ((atI ts b a).toNat) rt0).2.2.2.1) ((ts.getD ((atI ts b a).toNat) rt0).2.2.2.2)).2.1) ((dRat ((ts.getD ((atI ts b a).toNat) rt0).2.2.1) ((ts.getD ((atI ts b a).toNat) rt0).2.2.2.1) ((ts.getD ((atI ts b a).toNat) rt0).2.2.2.2)).2.2.1)).1), s66, t66] 30 := fw71
     have q75 := Chg.step (l := 0) (h := 0) (Chg.zero (l := 0) (h := 0) ((((d53.t c55).t c58).t c66).t cb68)) cw71 (by omega)
     have s74 : Chg 0 0 w28 w71 := q75
     refine wl_nil ?_
     refine dx_next s74 ?_
     refine dt 18 rfl rfl rfl rfl s74 (fun _ hS => px_assign rfl) ?_
     refine dx_done (by kernel_rfl) ?_
     have f76 := f73.chg cw71 (by omega)
     have f77 := f72.chg cw71 (by omega)
     have q78 := Chg.step (l := 0) (h := 0) (Chg.zero (l := 0) (h := 0) ((((d53.t c55).t c58).t c66).t cb68)) cw71 (by omega)
     exact q_n (kw_sub (Sub.c 6 rfl (.c 10 rfl .nil)) (kc32 _ _ ⟨b68, s66, ls66, us66, t66, lt66, ut66, rfl, q78, gw71, f76, f77, by omega, by omega, by omega, by omega, by omega, by omega⟩))
    refine sx_alloc [.bool false, (.slice none 0 0), (.slice none 0 0)] rfl Tryz.zeroValue30 rfl (fun b79 w80 eb79 sb79 fb79 cb79 => ?_)
    have zw80 := cb79.size
    have s81 : Chg 0 0 w28 w80 := (((d53.t c55).t c58).t cb79)
    refine wl_nil ?_
    refine dx_next s81 ?_
    refine dx_eff 12 rfl (by kernel_rfl) ?_
    have f85 := (((f51.ext d53).ext c55).ext c58).ext cb79
    have f89 := (((f52.ext d53).ext c55).ext c58).ext cb79
    have f90 := os_58.ext cb79
    have f91 := ot_58.ext cb79
    refine sx_call rfl rfl Tryz.call49 (c_sRatDiv f85.sv f89.sv f90.sv f91.sv (by omega)) (fun v92 w92 p92 => ?_)
    obtain ⟨s92, t92, ls92, us92, lt92, ut92, rfl, os_92, ot_92, hd92, hl92, c92⟩ := p92
    have zw92 := c92.size
    have s93 : Chg 0 0 w28 w92 := ((((d53.t c55).t c58).t cb79).t c92)
    refine wl_nil ?_
    refine dx_next s93 ?_
    refine dt 13 rfl rfl rfl rfl s93 (fun _ hS => px_move rfl) ?_
    refine dt 14 rfl rfl rfl rfl s93 (fun _ hS => px_ex2 rfl rfl) ?_
    refine dt 15 rfl rfl rfl rfl s93 (fun _ hS => px_ex2 rfl rfl) ?_
    refine dx_eff 17 rfl (by kernel_rfl) ?_
    have f95 := fb79.ext c92
    refine sx_store (vs := [.bool ((rDiv ((rInt (ng (1 : Int)) (dg ((1 : Int)).natAbs)).1) ((rInt (ng (1 : Int)) (dg ((1 : Int)).natAbs)).2.1) ((rInt (ng (1 : Int)) (dg ((1 : Int)).natAbs)).2.2.1) ((dRat ((ts.getD ((atI ts b a).toNat) rt0).2.2.1) ((ts.getD ((atI ts b a).toNat) rt0).2.2.2.1) ((ts.getD ((atI ts b a).toNat) rt0).2.2.2.2)).1) ((dRat ((ts.getD ((atI ts b a).toNat) rt0).2.2.1) ((ts.getD ((atI ts b a).toNat) rt0).2.2.2.1) ((ts.getD ((atI ts b a).toNat) rt0).2.2.2.2)).2.1) ((dRat ((ts.getD ((atI ts b a).toNat) rt0).2.2.1) ((ts.getD ((atI ts b a).toNat) rt0).2.2.2.1) ((ts.getD ((atI ts b a).toNat) rt0).2.2.2.2)).2.2.1)).1), s92, t92]) rfl rfl f95 rfl Tryz.sizeOf30 (nbl rfl) (one_cons rfl (one_cons os_92.one (one_cons ot_92.one one_nil))) (fun w94 sw94 fw94 cw94 => ?_)
    have zw94 := cw94.size
    have gw94 : Blk w94 b79 [.bool ((rDiv ((rInt (ng (1 : Int)) (dg ((1 : Int)).natAbs)).1) ((rInt (ng (1 : Int)) (dg ((1 : Int)).natAbs)).2.1) ((rInt (ng (1 : Int)) (dg ((1 : Int)).natAbs)).2.2.1) ((dRat ((ts.getD ((atI ts b a).toNat) rt0).2.2.1) ((ts.getD ((atI ts b a).toNat) rt0).2.2.2.1) ((ts.getD ((atI ts b a).toNat) rt0).2.2.2.2)).1) ((dRat ((ts.getD ((atI ts b a).toNat) rt0).2.2.1) ((ts.getD ((atI ts b a).toNat) rt0).2.2.2.1) ((ts.getD ((atI ts b a).toNat) rt0).2.2.2.2)).2.1) ((dRat ((ts.getD ((atI ts b a).toNat) rt0).2.2.1) ((ts.getD ((atI ts b a).toNat) rt0).2.2.2.1) ((ts.getD ((atI ts b a).toNat) rt0).2.2.2.2)).2.2.1)).1), s92, t92] 30 := fw94
    have q97 := Chg.step (l := 0) (h := 0) (Chg.zero (l := 0) (h := 0) ((((d53.t c55).t c58).t cb79).t c92)) cw94 (by omega)
    have s96 : Chg 0 0 w28 w94 := q97
    refine wl_nil ?_
    refine dx_next s96 ?_
    refine dt 18 rfl rfl rfl rfl s96 (fun _ hS => px_assign rfl) ?_
    refine dx_done (by kernel_rfl) ?_
    have f98 := os_92.chg cw94 (by omega)
    have f99 := ot_92.chg cw94 (by omega)
    have q100 := Chg.step (l := 0) (h := 0) (Chg.zero (l := 0) (h := 0) ((((d53.t c55).t c58).t cb79).t c92)) cw94 (by omega)
    exact q_n (kw_sub (Sub.c 6 rfl (.c 10 rfl .nil)) (kc32 _ _ ⟨b79, s92, ls92, us92, t92, lt92, ut92, rfl, q100, gw94, f98, f99, by omega, by omega, by omega, by omega, by omega, by omega⟩))
   refine sx_alloc [.bool false, (.slice none 0 0), (.slice none 0 0)] rfl Tryz.zeroValue30 rfl (fun b101 w102 eb101 sb101 fb101 cb101 => ?_)
   have zw102 := cb101.size
   have s103 : Chg 0 0 w28 w102 := ((d53.t c55).t cb101)
   refine wl_nil ?_
   refine dx_next s103 ?_
   refine dx_eff 11 rfl (by kernel_rfl) ?_
   have f105 := ((f54.nest ((atI ts b a).toNat) (by omega)).ext c55).ext cb101
   refine sx_call rfl rfl Tryz.call73 (c_sDecRat f105 (hz _ (by omega))) (fun v106 w106 p106 => ?_)
   obtain ⟨s106, t106, ls106, us106, lt106, ut106, rfl, os_106, ot_106, hd106, hl106, c106⟩ := p106
   have zw106 := c106.size
   have s107 : Chg 0 0 w28 w106 := (((d53.t c55).t cb101).t c106)
   refine wl_nil ?_
   refine dx_next s107 ?_
   refine dx_eff 12 rfl (by kernel_rfl) ?_
   have f110 := ((f51.ext d53).ext c55).ext cb101
   have f111 := f110.ext c106
   have f114 := ((f52.ext d53).ext c55).ext cb101
   have f115 := f114.ext c106
   refine sx_call rfl rfl Tryz.call49 (c_sRatDiv f111.sv f115.sv os_106.sv ot_106.sv (by omega)) (fun v116 w116 p116 => ?_)
   obtain ⟨s116, t116, ls116, us116, lt116, ut116, rfl, os_116, ot_116, hd116, hl116, c116⟩ := p116
   have zw116 := c116.size
   have s117 : Chg 0 0 w28 w116 := ((((d53.t c55).t cb101).t c106).t c116)
   refine wl_nil ?_
   refine dx_next s117 ?_
   refine dt 13 rfl rfl rfl rfl s117 (fun _ hS => px_move rfl) ?_
   refine dt 14 rfl rfl rfl rfl s117 (fun _ hS => px_ex2 rfl rfl) ?_
   refine dt 15 rfl rfl rfl rfl s117 (fun _ hS => px_ex2 rfl rfl) ?_
   refine dx_eff 17 rfl (by kernel_rfl) ?_
   have f120 := (fb101.ext c106).ext c116
   refine sx_store (vs := [.bool ((rDiv ((rInt (ng (1 : Int)) (dg ((1 : Int)).natAbs)).1) ((rInt (ng (1 : Int)) (dg ((1 : Int)).natAbs)).2.1) ((rInt (ng (1 : Int)) (dg ((1 : Int)).natAbs)).2.2.1) ((dRat ((ts.getD ((atI ts b a).toNat) rt0).2.2.1) ((ts.getD ((atI ts b a).toNat) rt0).2.2.2.1) ((ts.getD ((atI ts b a).toNat) rt0).2.2.2.2)).1) ((dRat ((ts.getD ((atI ts b a).toNat) rt0).2.2.1) ((ts.getD ((atI ts b a).toNat) rt0).2.2.2.1) ((ts.getD ((atI ts b a).toNat) rt0).2.2.2.2)).2.1) ((dRat ((ts.getD ((atI ts b a).toNat) rt0).2.2.1) ((ts.getD ((atI ts b a).toNat) rt0).2.2.2.1) ((ts.getD ((atI ts b a).toNat) rt0).2.2.2.2)).2.2.1)).1), s116, t116]) rfl rfl f120 rfl Tryz.sizeOf30 (nbl rfl) (one_cons rfl (one_cons os_116.one (one_cons ot_116.one one_nil))) (fun w118 sw118 fw118 cw118 => ?_)
   have zw118 := cw118.size
   have gw118 : Blk w118 b101 [.bool ((rDiv ((rInt (ng (1 : Int)) (dg ((1 : Int)).natAbs)).1) ((rInt (ng (1 : Int)) (dg ((1 : Int)).natAbs)).2.1) ((rInt (ng (1 : Int)) (dg ((1 : Int)).natAbs)).2.2.1) ((dRat ((ts.getD ((atI ts b a).toNat) rt0).2.2.1) ((ts.getD ((atI ts b a).toNat) rt0).2.2.2.1) ((ts.getD ((atI ts b a).toNat) rt0).2.2.2.2)).1) ((dRat ((ts.getD ((atI ts b a).toNat) rt0).2.2.1) ((ts.getD ((atI ts b a).toNat) rt0).2.2.2.1) ((ts.getD ((atI ts b a).toNat) rt0).2.2.2.2)).2.1) ((dRat ((ts.getD ((atI ts b a).toNat) rt0).2.2.1) ((ts.getD ((atI ts b a).toNat) rt0).2.2.2.1) ((ts.getD ((atI ts b a).toNat) rt0).2.2.2.2)).2.2.1)).1), s116, t116] 30 := fw118
   have q122 := Chg.step (l := 0) (h := 0) (Chg.zero (l := 0) (h := 0) ((((d53.t c55).t cb101).t c106).t c116)) cw118 (by omega)
   have s121 : Chg 0 0 w28 w118 := q122
   refine wl_nil ?_
   refine dx_next s121 ?_
   refine dt 18 rfl rfl rfl rfl s121 (fun _ hS => px_assign rfl) ?_
   refine dx_done (by kernel_rfl) ?_
   have f123 := os_116.chg cw118 (by omega)
   have f124 := ot_116.chg cw118 (by omega)
   have q125 := Chg.step (l := 0) (h := 0) (Chg.zero (l := 0) (h := 0) ((((d53.t c55).t cb101).t c106).t c116)) cw118 (by omega)
   exact q_n (kw_sub (Sub.c 6 rfl (.c 10 rfl .nil)) (kc32 _ _ ⟨b101, s116, ls116, us116, t116, lt116, ut116, rfl, q125, gw118, f123, f124, by omega, by omega, by omega, by omega, by omega, by omega⟩))
  refine sx_alloc [.bool false, (.slice none 0 0), (.slice none 0 0)] rfl Tryz.zeroValue30 rfl (fun b126 w127 eb126 sb126 fb126 cb126 => ?_)
  have zw127 := cb126.size
  have s128 : Chg 0 0 w28 w127 := (d53.t cb126)
  refine wl_nil ?_
  refine dx_next s128 ?_
  refine dx_eff 7 rfl (by kernel_rfl) ?_
  have f130 := (f47.ext d53).ext cb126
  refine sx_call rfl rfl Tryz.call72 (c_l10At f130 (by omega)) (fun v131 w131 p131 => ?_)
  obtain ⟨rfl, c131⟩ := p131
  have zw131 := c131.size
  have s132 : Chg 0 0 w28 w131 := ((d53.t cb126).t c131)
  refine wl_nil ?_
  refine dx_next s132 ?_
  refine dt 8 rfl rfl rfl rfl s132 (fun _ hS => px_indexK (j := (atI ts b a).toNat) rfl rfl (by omega) Tryz.underlying33 Tryz.sizeOf99 ((f47.sv).chg hS (by omega)) (by omega)) ?_
  refine dt 9 rfl rfl rfl rfl s132 (fun _ hS => px_field rfl xfld99x2) ?_
  refine dt 10 rfl rfl rfl rfl s132 (fun _ hS => px_load rfl (((f47.sv).chg hS (by omega)).loadA (rt_lookD (rt_look f130.len (by omega))) Tryz.isAgg63 Tryz.sizeOf63)) ?_
  refine dx_eff 11 rfl (by kernel_rfl) ?_
  have f133 := (f130.nest ((atI ts b a).toNat) (by omega)).ext c131
  refine sx_call rfl rfl Tryz.call73 (c_sDecRat f133 (hz _ (by omega))) (fun v134 w134 p134 => ?_)
  obtain ⟨s134, t134, ls134, us134, lt134, ut134, rfl, os_134, ot_134, hd134, hl134, c134⟩ := p134
  have zw134 := c134.size
  have s135 : Chg 0 0 w28 w134 := (((d53.t cb126).t c131).t c134)
  refine wl_nil ?_
  refine dx_next s135 ?_
  refine dx_eff 12 rfl (by kernel_rfl) ?_
  have f137 := (f51.ext d53).ext cb126
  have f139 := (f137.ext c131).ext c134
  have f141 := (f52.ext d53).ext cb126
  have f143 := (f141.ext c131).ext c134
  refine sx_call rfl rfl Tryz.call49 (c_sRatDiv f139.sv f143.sv os_134.sv ot_134.sv (by omega)) (fun v144 w144 p144 => ?_)
  obtain ⟨s144, t144, ls144, us144, lt144, ut144, rfl, os_144, ot_144, hd144, hl144, c144⟩ := p144
  have zw144 := c144.size
  have s145 : Chg 0 0 w28 w144 := ((((d53.t cb126).t c131).t c134).t c144)
  refine wl_nil ?_
  refine dx_next s145 ?_
  refine dt 13 rfl rfl rfl rfl s145 (fun _ hS => px_move rfl) ?_
  refine dt 14 rfl rfl rfl rfl s145 (fun _ hS => px_ex2 rfl rfl) ?_
  refine dt 15 rfl rfl rfl rfl s145 (fun _ hS => px_ex2 rfl rfl) ?_
  refine dx_eff 17 rfl (by kernel_rfl) ?_
  have f149 := ((fb126.ext c131).ext c134).ext c144
  refine sx_store (vs := [.bool ((rDiv ((rInt (ng (1 : Int)) (dg ((1 : Int)).natAbs)).1) ((rInt (ng (1 : Int)) (dg ((1 : Int)).natAbs)).2.1) ((rInt (ng (1 : Int)) (dg ((1 : Int)).natAbs)).2.2.1) ((dRat ((ts.getD ((atI ts b a).toNat) rt0).2.2.1) ((ts.getD ((atI ts b a).toNat) rt0).2.2.2.1) ((ts.getD ((atI ts b a).toNat) rt0).2.2.2.2)).1) ((dRat ((ts.getD ((atI ts b a).toNat) rt0).2.2.1) ((ts.getD ((atI ts b a).toNat) rt0).2.2.2.1) ((ts.getD ((atI ts b a).toNat) rt0).2.2.2.2)).2.1) ((dRat ((ts.getD ((atI ts b a).toNat) rt0).2.2.1) ((ts.getD ((atI ts b a).toNat) rt0).2.2.2.1) ((ts.getD ((atI ts b a).toNat) rt0).2.2.2.2)).2.2.1)).1), s144, t144]) rfl rfl f149 rfl Tryz.sizeOf30 (nbl rfl) (one_cons rfl (one_cons os_144.one (one_cons ot_144.one one_nil))) (fun w146 sw146 fw146 cw146 => ?_)
  have zw146 := cw146.size
  have gw146 : Blk w146 b126 [.bool ((rDiv ((rInt (ng (1 : Int)) (dg ((1 : Int)).natAbs)).1) ((rInt (ng (1 : Int)) (dg ((1 : Int)).natAbs)).2.1) ((rInt (ng (1 : Int)) (dg ((1 : Int)).natAbs)).2.2.1) ((dRat ((ts.getD ((atI ts b a).toNat) rt0).2.2.1) ((ts.getD ((atI ts b a).toNat) rt0).2.2.2.1) ((ts.getD ((atI ts b a).toNat) rt0).2.2.2.2)).1) ((dRat ((ts.getD ((atI ts b a).toNat) rt0).2.2.1) ((ts.getD ((atI ts b a).toNat) rt0).2.2.2.1) ((ts.getD ((atI ts b a).toNat) rt0).2.2.2.2)).2.1) ((dRat ((ts.getD ((atI ts b a).toNat) rt0).2.2.1) ((ts.getD ((atI ts b a).toNat) rt0).2.2.2.1) ((ts.getD ((atI ts b a).toNat) rt0).2.2.2.2)).2.2.1)).1), s144, t144] 30 := fw146
  have q151 := Chg.step (l := 0) (h := 0) (Chg.zero (l := 0) (h := 0) ((((d53.t cb126).t c131).t c134).t c144)) cw146 (by omega)
  have s150 : Chg 0 0 w28 w146 := q151
  refine wl_nil ?_
  refine dx_next s150 ?_
  refine dt 18 rfl rfl rfl rfl s150 (fun _ hS => px_assign rfl) ?_
  refine dx_done (by kernel_rfl) ?_
  have f152 := os_144.chg cw146 (by omega)
  have f153 := ot_144.chg cw146 (by omega)
  have q154 := Chg.step (l := 0) (h := 0) (Chg.zero (l := 0) (h := 0) ((((d53.t cb126).t c131).t c134).t c144)) cw146 (by omega)
  exact q_n (kw_sub (Sub.c 6 rfl (.c 10 rfl .nil)) (kc32 _ _ ⟨b126, s144, ls144, us144, t144, lt144, ut144, rfl, q154, gw146, f152, f153, by omega, by omega, by omega, by omega, by omega, by omega⟩))
 rintro fr w'32 ⟨gb32x0, gs32x1, gl32x1, gu32x1, gs32x2, gl32x2, gu32x2, rfl, cw'32, xgb32x0, xgs32x1, xgs32x2, ygb32x0, ygl32x1, ygl32x2, dgl32x1xgb32x0, dgl32x2xgb32x0, dgl32x2xgl32x1⟩
 have zw'32 := cw'32.size
 refine sx_seq fun K155 k155 => sx_region ?_
 refine sp rfl (px_load rfl (xgb32x0.loadA (vs := [.bool ((rDiv ((rInt (ng (1 : Int)) (dg ((1 : Int)).natAbs)).1) ((rInt (ng (1 : Int)) (dg ((1 : Int)).natAbs)).2.1) ((rInt (ng (1 : Int)) (dg ((1 : Int)).natAbs)).2.2.1) ((dRat ((ts.getD ((atI ts b a).toNat) rt0).2.2.1) ((ts.getD ((atI ts b a).toNat) rt0).2.2.2.1) ((ts.getD ((atI ts b a).toNat) rt0).2.2.2.2)).1) ((dRat ((ts.getD ((atI ts b a).toNat) rt0).2.2.1) ((ts.getD ((atI ts b a).toNat) rt0).2.2.2.1) ((ts.getD ((atI ts b a).toNat) rt0).2.2.2.2)).2.1) ((dRat ((ts.getD ((atI ts b a).toNat) rt0).2.2.1) ((ts.getD ((atI ts b a).toNat) rt0).2.2.2.1) ((ts.getD ((atI ts b a).toNat) rt0).2.2.2.2)).2.2.1)).1), gs32x1, gs32x2]) (look_lit rfl) Tryz.isAgg30 Tryz.sizeOf30)) ?_
 have f160 := (((fb4.ext c10).ext c24).ext c25).ext cb26
 have f161 := f160.chg cw28 (by omega)
 have f162 := f161.ext cw'32
 refine sx_store (vs := [.bool ((rDiv ((rInt (ng (1 : Int)) (dg ((1 : Int)).natAbs)).1) ((rInt (ng (1 : Int)) (dg ((1 : Int)).natAbs)).2.1) ((rInt (ng (1 : Int)) (dg ((1 : Int)).natAbs)).2.2.1) ((dRat ((ts.getD ((atI ts b a).toNat) rt0).2.2.1) ((ts.getD ((atI ts b a).toNat) rt0).2.2.2.1) ((ts.getD ((atI ts b a).toNat) rt0).2.2.2.2)).1) ((dRat ((ts.getD ((atI ts b a).toNat) rt0).2.2.1) ((ts.getD ((atI ts b a).toNat) rt0).2.2.2.1) ((ts.getD ((atI ts b a).toNat) rt0).2.2.2.2)).2.1) ((dRat ((ts.getD ((atI ts b a).toNat) rt0).2.2.1) ((ts.getD ((atI ts b a).toNat) rt0).2.2.2.1) ((ts.getD ((atI ts b a).toNat) rt0).2.2.2.2)).2.2.1)).1), gs32x1, gs32x2]) rfl rfl f162 rfl Tryz.sizeOf30 (nbl rfl) (one_cons rfl (one_cons xgs32x1.one (one_cons xgs32x2.one one_nil))) (fun w156 sw156 fw156 cw156 => ?_)
 have zw156 := cw156.size
 have gw156 : Blk w156 b4 [.bool ((rDiv ((rInt (ng (1 : Int)) (dg ((1 : Int)).natAbs)).1) ((rInt (ng (1 : Int)) (dg ((1 : Int)).natAbs)).2.1) ((rInt (ng (1 : Int)) (dg ((1 : Int)).natAbs)).2.2.1) ((dRat ((ts.getD ((atI ts b a).toNat) rt0).2.2.1) ((ts.getD ((atI ts b a).toNat) rt0).2.2.2.1) ((ts.getD ((atI ts b a).toNat) rt0).2.2.2.2)).1) ((dRat ((ts.getD ((atI ts b a).toNat) rt0).2.2.1) ((ts.getD ((atI ts b a).toNat) rt0).2.2.2.1) ((ts.getD ((atI ts b a).toNat) rt0).2.2.2.2)).2.1) ((dRat ((ts.getD ((atI ts b a).toNat) rt0).2.2.1) ((ts.getD ((atI ts b a).toNat) rt0).2.2.2.1) ((ts.getD ((atI ts b a).toNat) rt0).2.2.2.2)).2.2.1)).1), gs32x1, gs32x2] 30 := fw156
 refine wl_nil (q_n (k155 _ _ ?_))
 refine sx_retc ?_
 refine sx_ret1 Tryz.results31 ⟨_, rfl, gw156.loadA (vs := [.bool ((rDiv ((rInt (ng (1 : Int)) (dg ((1 : Int)).natAbs)).1) ((rInt (ng (1 : Int)) (dg ((1 : Int)).natAbs)).2.1) ((rInt (ng (1 : Int)) (dg ((1 : Int)).natAbs)).2.2.1) ((dRat ((ts.getD ((atI ts b a).toNat) rt0).2.2.1) ((ts.getD ((atI ts b a).toNat) rt0).2.2.2.1) ((ts.getD ((atI ts b a).toNat) rt0).2.2.2.2)).1) ((dRat ((ts.getD ((atI ts b a).toNat) rt0).2.2.1) ((ts.getD ((atI ts b a).toNat) rt0).2.2.2.1) ((ts.getD ((atI ts b a).toNat) rt0).2.2.2.2)).2.1) ((dRat ((ts.getD ((atI ts b a).toNat) rt0).2.2.1) ((ts.getD ((atI ts b a).toNat) rt0).2.2.2.1) ((ts.getD ((atI ts b a).toNat) rt0).2.2.2.2)).2.2.1)).1), gs32x1, gs32x2]) (look_lit rfl) Tryz.isAgg30 Tryz.sizeOf30⟩ ?_
 have hrl := stp_len (ts := ts) (a := a) (b := b)
 rw [stp_3 h94 (by omega)] at hrl ⊢
 have q163 := Chg.step (l := 0) (h := 0) (Chg.zero (l := 0) (h := 0) (((((cb2.t cb4).t c10).t c24).t c25).t cb26)) cw28 (by omega)
 have q164 := Chg.step (l := 0) (h := 0) q163 cw'32 (by omega)
 have q165 := Chg.step (l := 0) (h := 0) q164 cw156 (by omega)
 have f166 := xgs32x1.chg cw156 (by omega)
 have f167 := xgs32x2.chg cw156 (by omega)
 exact ⟨_, _, _, _, _, _, rfl, f166, f167, by omega, hrl, q165⟩

theorem c_sRatMul {w : World} {n1 : Bool} {v1 : Value} {lv1 uv1 : Nat} {z1 : List Int} {d1 : Value} {ld1 ud1 : Nat} {y1 : List Int} {n2 : Bool} {v2 : Value} {lv2 uv2 : Nat} {z2 : List Int} {d2 : Value} {ld2 ud2 : Nat} {y2 : List Int} (hv1 : Sl w lv1 uv1 v1 (z1)) (hd1 : Sl w ld1 ud1 d1 (y1)) (hv2 : Sl w lv2 uv2 v2 (z2)) (hd2 : Sl w ld2 ud2 d2 (y2)) (h63 : z1.length ≤ 4611686018427387904 ∧ y1.length ≤ 4611686018427387904 ∧ z2.length ≤ 4611686018427387904 ∧ y2.length ≤ 4611686018427387904) :
  Ret Tryz.prog 32 [.agg #[.bool n1, v1, d1], .agg #[.bool n2, v2, d2]] w fun v w' => ∃ s t ls us lt ut, v = .tuple #[.agg #[.bool ((rMul n1 z1 y1 n2 z2 y2).1), s, t], .bool ((rMul n1 z1 y1 n2 z2 y2).2.2.2)] ∧ OwnI w' (ls) (us) s intT ((rMul n1 z1 y1 n2 z2 y2).2.1) ∧ OwnI w' (lt) (ut) t intT ((rMul n1 z1 y1 n2 z2 y2).2.2.1) ∧ (w.heap.size ≤ ls ∧ us ≤ w'.heap.size ∧ w.heap.size ≤ lt ∧ ut ≤ w'.heap.size ∧ (us ≤ lt ∨ ut ≤ ls)) ∧ ((rMul n1 z1 y1 n2 z2 y2).2.1.length ≤ 18 ∧ (rMul n1 z1 y1 n2 z2 y2).2.2.1.length ≤ 18) ∧ Chg 0 0 w w' := by
 have hv10 := hv1.fit
 have hd10 := hd1.fit
 have hv20 := hv2.fit
 have hd20 := hd2.fit
 refine sx_enter Tryz.func32 rfl Tryz.ntmps32 (nbl rfl) ?_
 refine sx_seq fun K1 k1 => sx_region ?_
 refine sx_box [.bool n1, v1, d1] rfl rfl rfl (fun b2 w3 eb2 sb2 fb2 cb2 => ?_)
 have zw3 := cb2.size
 refine sx_box [.bool n2, v2, d2] rfl rfl rfl (fun b4 w5 eb4 sb4 fb4 cb4 => ?_)
 have zw5 := cb4.size
 refine sx_alloc [.bool false, (.slice none 0 0), (.slice none 0 0)] rfl Tryz.zeroValue30 rfl (fun b6 w7 eb6 sb6 fb6 cb6 => ?_)
 have zw7 := cb6.size
 refine av rfl rfl (wl_nil (q_n (k1 _ _ ?_)))
 refine sx_seq fun K8 k8 => ?_
 refine sx_seq fun K9 k9 => sx_region ?_
 have f10 := fb2.ext cb4
 have f11 := f10.ext cb6
 refine sp rfl (px_load rfl (f11.loadA (vs := [.bool n1, v1, d1]) (look_lit rfl) Tryz.isAgg30 Tryz.sizeOf30)) ?_
 have f12 := hv10.ext cb2
 have f13 := f12.ext cb4
 have f14 := f13.ext cb6
 have f15 := hd10.ext cb2
 have f16 := f15.ext cb4
 have f17 := f16.ext cb6
 refine sx_call rfl rfl Tryz.call74 (c_sRatOk f14 f17 (by omega)) (fun v18 w18 p18 => ?_)
 obtain ⟨rfl, c18⟩ := p18
 have zw18 := c18.size
 refine sp rfl (px_notP rfl) ?_
 refine mv rfl rfl ?_
 refine sx_tmpP (t := 9) rfl (fun h84 => ?_) (fun h84 => ?_)
 ·
  refine sx_guardF rfl rfl rfl rfl rfl rfl ?_
  refine sx_guardF rfl rfl rfl rfl rfl rfl ?_
  refine sx_guardF rfl rfl rfl rfl rfl rfl ?_
  refine sp rfl (px_pick rfl rfl) ?_
  refine wl_nil (q_n (k9 _ _ ?_))
  refine sx_condT rfl ?_
  refine sx_seq fun K19 k19 => sx_region ?_
  refine sp rfl (px_build rfl (xbld30x  _)) ?_
  have f21 := fb6.ext c18
  refine sx_store (vs := [.bool false, (.slice none 0 0), (.slice none 0 0)]) rfl rfl f21 rfl Tryz.sizeOf30 (nbl rfl) (o3 rfl rfl rfl) (fun w20 sw20 fw20 cw20 => ?_)
  have zw20 := cw20.size
  have gw20 : Blk w20 b6 [.bool false, (.slice none 0 0), (.slice none 0 0)] 30 := fw20
  refine av rfl rfl (wl_nil (q_n (k19 _ _ ?_)))
  refine sx_sub (Sub.c 2 rfl (.c 3 rfl (.c 4 rfl (.c 5 rfl .nil)))) ?_
  refine sx_retc ?_
  refine q_r (sx_ret2 Tryz.results32 ⟨_, rfl, gw20.loadA (vs := [.bool false, (.slice none 0 0), (.slice none 0 0)]) (look_lit rfl) Tryz.isAgg30 Tryz.sizeOf30⟩ rfl ?_)
  rw [rMul_no (by grind)]
  have q22 := Chg.step (l := 0) (h := 0) (Chg.zero (l := 0) (h := 0) (((cb2.t cb4).t cb6).t c18)) cw20 (by omega)
  exact ⟨_, _, w.heap.size, w.heap.size, w.heap.size, w.heap.size, rfl, Own.nil _ _ _ _ _, Own.nil _ _ _ _ _, by omega, ⟨by simp [noR], by simp [noR]⟩, q22⟩
 refine sx_guardT rfl rfl rfl ?_
 have f23 := fb4.ext cb6
 have f24 := f23.ext c18
 refine sp rfl (px_load rfl (f24.loadA (vs := [.bool n2, v2, d2]) (look_lit rfl) Tryz.isAgg30 Tryz.sizeOf30)) ?_
 refine sx_guardT rfl rfl rfl ?_
 have f25 := hv20.ext cb2
 have f26 := f25.ext cb4
 have f27 := f26.ext cb6
 have f28 := f27.ext c18
 have f29 := hd20.ext cb2
 have f30 := f29.ext cb4
 have f31 := f30.ext cb6
 have f32 := f31.ext c18
 refine sx_call rfl rfl Tryz.call74 (c_sRatOk f28 f32 (by omega)) (fun v33 w33 p33 => ?_)
 obtain ⟨rfl, c33⟩ := p33
 have zw33 := c33.size
 refine sx_guardT rfl rfl rfl ?_
 refine sp rfl (px_notP rfl) ?_
 refine sp rfl (px_pick rfl rfl) ?_
 refine wl_nil (q_n (k9 _ _ ?_))
 refine sx_condP rfl (fun h84x1 => ?_) (fun h84x1 => ?_)
 ·
  refine sx_seq fun K34 k34 => sx_region ?_
  refine sp rfl (px_build rfl (xbld30x  _)) ?_
  have f37 := (fb6.ext c18).ext c33
  refine sx_store (vs := [.bool false, (.slice none 0 0), (.slice none 0 0)]) rfl rfl f37 rfl Tryz.sizeOf30 (nbl rfl) (o3 rfl rfl rfl) (fun w35 sw35 fw35 cw35 => ?_)
  have zw35 := cw35.size
  have gw35 : Blk w35 b6 [.bool false, (.slice none 0 0), (.slice none 0 0)] 30 := fw35
  refine av rfl rfl (wl_nil (q_n (k34 _ _ ?_)))
  refine sx_sub (Sub.c 2 rfl (.c 3 rfl (.c 4 rfl (.c 5 rfl .nil)))) ?_
  refine sx_retc ?_
  refine q_r (sx_ret2 Tryz.results32 ⟨_, rfl, gw35.loadA (vs := [.bool false, (.slice none 0 0), (.slice none 0 0)]) (look_lit rfl) Tryz.isAgg30 Tryz.sizeOf30⟩ rfl ?_)
  rw [rMul_no (by grind)]
  have q38 := Chg.step (l := 0) (h := 0) (Chg.zero (l := 0) (h := 0) ((((cb2.t cb4).t cb6).t c18).t c33)) cw35 (by omega)
  exact ⟨_, _, w.heap.size, w.heap.size, w.heap.size, w.heap.size, rfl, Own.nil _ _ _ _ _, Own.nil _ _ _ _ _, by omega, ⟨by simp [noR], by simp [noR]⟩, q38⟩
 have hR1 := Decidable.not_not.1 h84
 have hR2 := Decidable.not_not.1 h84x1
 obtain ⟨x1, e1, rfl, rfl, rfl, hp1, hx1, hy1, hg1⟩ := hR1.rat
 obtain ⟨x2, e2, rfl, rfl, rfl, hp2, hx2, hy2, hg2⟩ := hR2.rat
 have l1 := len_mul x1.natAbs e2
 have l2 := len_mul x2.natAbs e1
 have l3 := len_mul e1 e2
 have a1 : (x1 * (e2 : Int)).natAbs = x1.natAbs * e2 := by rw [Int.natAbs_mul, Int.natAbs_natCast]
 have a2 : (x2 * (e1 : Int)).natAbs = x2.natAbs * e1 := by rw [Int.natAbs_mul, Int.natAbs_natCast]
 have l4 := len_addI (x1 * (e2 : Int)) (x2 * (e1 : Int))
 rw [a1, a2] at l4
 have l5 := len_mul e1 x2.natAbs
 have l6 := len_mul x1.natAbs x2.natAbs
 refine sx_skip ?_
 refine q_n (k8 _ _ ?_)
 refine sx_seq fun K39 k39 => ?_
 have f41 := (f11.ext c18).ext c33
 have f42 := f24.ext c33
 refine dx_region (fun w' => Chg b6 (b6 + 1) w33 w') (by kernel_rfl) (Chg.zero (Chg.drew _)) ?_
 have d49 := Chg.drew w33
 have s49 : Chg b6 (b6 + 1) w33 (World.drew w33) := Chg.zero (Chg.drew _)
 have y49 : (World.drew w33).heap.size = w33.heap.size := rfl
 generalize World.drew w33 = w49 at *
 have zw49 := d49.size
 refine dt 0 rfl rfl rfl rfl s49 (fun _ hS => px_field rfl xfld30x0) ?_
 refine dt 1 rfl rfl rfl rfl s49 (fun _ hS => px_field rfl xfld28x0) ?_
 refine dt 2 rfl rfl rfl rfl s49 (fun _ hS => px_load rfl ((f41.chg hS (by omega)).load1 rfl Tryz.isAgg4)) ?_
 refine dt 3 rfl rfl rfl rfl s49 (fun _ hS => px_field rfl xfld30x0) ?_
 refine dt 4 rfl rfl rfl rfl s49 (fun _ hS => px_field rfl xfld28x0) ?_
 refine dt 5 rfl rfl rfl rfl s49 (fun _ hS => px_load rfl ((f42.chg hS (by omega)).load1 rfl Tryz.isAgg4)) ?_
 refine dt 6 rfl rfl rfl rfl s49 (fun _ hS => px_neB Tryz.underlying4 rfl rfl) ?_
 refine dt 7 rfl rfl rfl rfl s49 (fun _ hS => px_field rfl xfld30x0) ?_
 refine dt 8 rfl rfl rfl rfl s49 (fun _ hS => px_field rfl xfld28x1) ?_
 refine dt 9 rfl rfl rfl rfl s49 (fun _ hS => px_load rfl ((f41.chg hS (by omega)).load1 rfl Tryz.isAgg26)) ?_
 refine dt 10 rfl rfl rfl rfl s49 (fun _ hS => px_field rfl xfld30x0) ?_
 refine dt 11 rfl rfl rfl rfl s49 (fun _ hS => px_field rfl xfld28x1) ?_
 refine dt 12 rfl rfl rfl rfl s49 (fun _ hS => px_load rfl ((f42.chg hS (by omega)).load1 rfl Tryz.isAgg26)) ?_
 refine dt 14 rfl rfl rfl rfl s49 (fun _ hS => px_field rfl xfld30x1) ?_
 refine dt 15 rfl rfl rfl rfl s49 (fun _ hS => px_load rfl ((f41.chg hS (by omega)).load1 rfl Tryz.isAgg26)) ?_
 refine dt 16 rfl rfl rfl rfl s49 (fun _ hS => px_field rfl xfld30x1) ?_
 refine dt 17 rfl rfl rfl rfl s49 (fun _ hS => px_load rfl ((f42.chg hS (by omega)).load1 rfl Tryz.isAgg26)) ?_
 refine dx_eff 13 rfl (by kernel_rfl) ?_
 have f50 := ((f14.ext c18).ext c33).ext d49
 have f51 := (f28.ext c33).ext d49
 refine sx_call rfl rfl Tryz.call76 (c_l02Mul f50 f51 (by omega) (by omega)) (fun v52 w52 p52 => ?_)
 obtain ⟨s52, rfl, os_52, c52⟩ := p52
 have zw52 := c52.size
 have s53 : Chg b6 (b6 + 1) w33 w52 := (Chg.zero (l := b6) (h := (b6 + 1)) (d49.t c52))
 refine wl_nil ?_
 refine dx_next s53 ?_
 refine dx_eff 18 rfl (by kernel_rfl) ?_
 have f55 := (((f17.ext c18).ext c33).ext d49).ext c52
 have f57 := ((f32.ext c33).ext d49).ext c52
 refine sx_call rfl rfl Tryz.call76 (c_l02Mul f55 f57 (by omega) (by omega)) (fun v58 w58 p58 => ?_)
 obtain ⟨s58, rfl, os_58, c58⟩ := p58
 have zw58 := c58.size
 have s59 : Chg b6 (b6 + 1) w33 w58 := (Chg.zero (l := b6) (h := (b6 + 1)) ((d49.t c52).t c58))
 refine wl_nil ?_
 refine dx_next s59 ?_
 refine dx_eff 19 rfl (by kernel_rfl) ?_
 have f60 := os_52.ext c58
 refine sx_call rfl rfl Tryz.call75 (c_l05Low f60 os_58 (by omega) (by omega)) (fun v61 w61 p61 => ?_)
 obtain ⟨s61, t61, ls61, us61, lt61, ut61, rfl, os_61, ot_61, hd61, hl61, c61⟩ := p61
 have zw61 := c61.size
 have s62 : Chg b6 (b6 + 1) w33 w61 := (Chg.zero (l := b6) (h := (b6 + 1)) (((d49.t c52).t c58).t c61))
 refine wl_nil ?_
 refine dx_next s62 ?_
 refine dt 20 rfl rfl rfl rfl s62 (fun _ hS => px_ex2 rfl rfl) ?_
 refine dt 21 rfl rfl rfl rfl s62 (fun _ hS => px_ex2 rfl rfl) ?_
 refine dx_eff 22 rfl (by kernel_rfl) ?_
 have f69 := (((((fb6.ext c18).ext c33).ext d49).ext c52).ext c58).ext c61
 refine sx_store (vs := [.bool ((rR (sgI ((ng x1) != (ng x2)) (x1.natAbs * x2.natAbs)) (e1 * e2)).1), s61, t61]) rfl rfl f69 rfl Tryz.sizeOf30 (nbl rfl) (one_cons rfl (one_cons os_61.one (one_cons ot_61.one one_nil))) (fun w63 sw63 fw63 cw63 => ?_)
 have zw63 := cw63.size
 have gw63 : Blk w63 b6 [.bool ((rR (sgI ((ng x1) != (ng x2)) (x1.natAbs * x2.natAbs)) (e1 * e2)).1), s61, t61] 30 := fw63
 have q71 := Chg.step (l := b6) (h := (b6 + 1)) (Chg.zero (l := b6) (h := (b6 + 1)) (((d49.t c52).t c58).t c61)) cw63 (by omega)
 have s70 : Chg b6 (b6 + 1) w33 w63 := q71
 refine wl_nil ?_
 refine dx_next s70 ?_
 refine dt 23 rfl rfl rfl rfl s70 (fun _ hS => px_assign rfl) ?_
 refine dx_done (by kernel_rfl) ?_
 refine q_n (k39 _ _ ?_)
 refine sx_sub (Sub.c 4 rfl (.c 5 rfl .nil)) ?_
 refine sx_retc ?_
 refine sx_ret2 Tryz.results32 ⟨_, rfl, gw63.loadA (vs := [.bool ((rR (sgI ((ng x1) != (ng x2)) (x1.natAbs * x2.natAbs)) (e1 * e2)).1), s61, t61]) (look_lit rfl) Tryz.isAgg30 Tryz.sizeOf30⟩ rfl ?_
 have hrl := rMul_len (n1 := ng x1) (z1 := dg x1.natAbs) (y1 := dg e1) (n2 := ng x2) (z2 := dg x2.natAbs) (y2 := dg e2)
 rw [rMul_ok hR1 hR2] at hrl ⊢
 have q72 := Chg.step (l := 0) (h := 0) (Chg.zero (l := 0) (h := 0) ((((((((cb2.t cb4).t cb6).t c18).t c33).t d49).t c52).t c58).t c61)) cw63 (by omega)
 have f73 := os_61.chg cw63 (by omega)
 have f74 := ot_61.chg cw63 (by omega)
 exact ⟨_, _, _, _, _, _, rfl, f73, f74, by omega, hrl, q72⟩

theorem c_sRateOf {w : World} {pv : ByteArray} {vt : Value} {lvt uvt : Nat} {ts : List Rt} {vvt : List Value} {a : ByteArray} {b : ByteArray} (hvt : RtS w lvt uvt vt ts vvt) (h63 : ts.length ≤ 4611686018427387904) (hz : ∀ i, i < ts.length → (ts.getD i rt0).2.2.2.1.length ≤ 4611686018427387904) :
  Ret Tryz.prog 8 [.agg #[.string pv, vt], .string a, .string b] w fun v w' => ∃ s t ls us lt ut, v = .tuple #[.agg #[.bool ((rOf pv ts a b).1), s, t], .bool ((rOf pv ts a b).2.2.2)] ∧ OwnI w' (ls) (us) s intT ((rOf pv ts a b).2.1) ∧ OwnI w' (lt) (ut) t intT ((rOf pv ts a b).2.2.1) ∧ (w.heap.size ≤ ls ∧ us ≤ w'.heap.size ∧ w.heap.size ≤ lt ∧ ut ≤ w'.heap.size ∧ (us ≤ lt ∨ ut ≤ ls)) ∧ ((rOf pv ts a b).2.1.length ≤ 18 ∧ (rOf pv ts a b).2.2.1.length ≤ 18) ∧ Chg 0 0 w w' := by
 have hvt0 := hvt.fit
 refine sx_enter Tryz.func8 rfl Tryz.ntmps8 (nbl rfl) ?_
 refine sx_seq fun K1 k1 => sx_region ?_
 refine sx_box [.string pv, vt] rfl rfl rfl (fun b2 w3 eb2 sb2 fb2 cb2 => ?_)
 have zw3 := cb2.size
 refine sx_alloc [.bool false, (.slice none 0 0), (.slice none 0 0)] rfl Tryz.zeroValue30 rfl (fun b4 w5 eb4 sb4 fb4 cb4 => ?_)
 have zw5 := cb4.size
 refine av rfl rfl (wl_nil (q_n (k1 _ _ ?_)))
 refine sx_seq fun K6 k6 => ?_
 refine sx_seq fun K7 k7 => sx_region ?_
 have f8 := fb2.ext cb4
 refine sp rfl (px_load rfl (f8.loadA (vs := [.string pv, vt]) (look_lit rfl) Tryz.isAgg35 Tryz.sizeOf35)) ?_
 refine mv rfl rfl (mv rfl rfl ?_)
 have f9 := hvt0.ext cb2
 have f10 := f9.ext cb4
 refine sx_call rfl rfl Tryz.call28 (c_sRateHow f10 (by omega) (by first | assumption | exact fun i hi => Nat.le_trans (hzz i hi) (by omega))) (fun v11 w11 p11 => ?_)
 obtain ⟨rfl, c11⟩ := p11
 have zw11 := c11.size
 refine wl_nil (q_n (k7 _ _ ?_))
 refine sx_block ?_
 refine sx_seq fun K12 k12 => sx_region ?_
 refine sp rfl (px_eq rfl rfl) ?_
 refine av rfl rfl (wl_nil (q_n (k12 _ _ ?_)))
 refine sx_condP rfl (fun h105 => ?_) (fun h105 => ?_)
 ·
  refine sx_seq fun K13 k13 => sx_region ?_
  refine sx_call rfl rfl Tryz.call30 (c_sIntOf (by omega)) (fun v14 w14 p14 => ?_)
  obtain ⟨s14, rfl, os_14, c14⟩ := p14
  have zw14 := c14.size
  refine sx_call rfl rfl Tryz.call29 (c_sRatInt os_14.sv (by have h9 := len_i64 (n := 1) (by omega); omega)) (fun v15 w15 p15 => ?_)
  obtain ⟨s15, t15, ls15, us15, lt15, ut15, rfl, os_15, ot_15, hd15, hl15, c15⟩ := p15
  have zw15 := c15.size
  refine sp rfl (px_ex2 rfl rfl) ?_
  refine sp rfl (px_ex2 rfl rfl) ?_
  have f19 := ((fb4.ext c11).ext c14).ext c15
  refine sx_store (vs := [.bool ((rInt (ng (1 : Int)) (dg ((1 : Int)).natAbs)).1), s15, t15]) rfl rfl f19 rfl Tryz.sizeOf30 (nbl rfl) (one_cons rfl (one_cons os_15.one (one_cons ot_15.one one_nil))) (fun w16 sw16 fw16 cw16 => ?_)
  have zw16 := cw16.size
  have gw16 : Blk w16 b4 [.bool ((rInt (ng (1 : Int)) (dg ((1 : Int)).natAbs)).1), s15, t15] 30 := fw16
  refine av rfl rfl (wl_nil (q_n (k13 _ _ ?_)))
  refine sx_sub (Sub.c 6 rfl (.c 7 rfl .nil)) ?_
  refine sx_retc ?_
  refine q_br (q_r (sx_ret2 Tryz.results8 ⟨_, rfl, gw16.loadA (vs := [.bool ((rInt (ng (1 : Int)) (dg ((1 : Int)).natAbs)).1), s15, t15]) (look_lit rfl) Tryz.isAgg30 Tryz.sizeOf30⟩ rfl ?_))
  have hrl := rOf_len (pv := pv) (ts := ts) (a := a) (b := b)
  rw [rOf_1 h105] at hrl ⊢
  have q20 := Chg.step (l := 0) (h := 0) (Chg.zero (l := 0) (h := 0) ((((cb2.t cb4).t c11).t c14).t c15)) cw16 (by omega)
  have f21 := os_15.chg cw16 (by omega)
  have f22 := ot_15.chg cw16 (by omega)
  exact ⟨_, _, _, _, _, _, rfl, f21, f22, by omega, hrl, q20⟩
 refine sx_seq fun K23 k23 => ?_
 refine sx_seq fun K24 k24 => sx_region ?_
 refine sp rfl (px_eq rfl rfl) ?_
 refine av rfl rfl (wl_nil (q_n (k24 _ _ ?_)))
 refine sx_condP rfl (fun h107 => ?_) (fun h107 => ?_)
 ·
  refine sx_skip ?_
  refine q_n (k23 _ _ ?_)
  refine sx_condP rfl (fun h107x1 => ?_) (fun h107x1 => ?_)
  ·
   refine sx_seq fun K25 k25 => sx_region ?_
   have f26 := f8.ext c11
   refine sp rfl (px_load rfl (f26.loadA (vs := [.string pv, vt]) (look_lit rfl) Tryz.isAgg35 Tryz.sizeOf35)) ?_
   refine mv rfl rfl (mv rfl rfl ?_)
   have f27 := f10.ext c11
   refine sx_call rfl rfl Tryz.call31 (c_l10Step f27 (by omega) (by first | assumption | exact fun i hi => Nat.le_trans (hzz i hi) (by omega)) ((how_ok (show how pv ts a b ≠ 0 by omega)).1.2.2) (leg_23 (pv := pv) (by omega))) (fun v28 w28 p28 => ?_)
   obtain ⟨s28, t28, ls28, us28, lt28, ut28, rfl, os_28, ot_28, hd28, hl28, c28⟩ := p28
   have zw28 := c28.size
   have f31 := (fb4.ext c11).ext c28
   refine sx_store (vs := [.bool ((stp ts a b).1), s28, t28]) rfl rfl f31 rfl Tryz.sizeOf30 (nbl rfl) (one_cons rfl (one_cons os_28.one (one_cons ot_28.one one_nil))) (fun w29 sw29 fw29 cw29 => ?_)
   have zw29 := cw29.size
   have gw29 : Blk w29 b4 [.bool ((stp ts a b).1), s28, t28] 30 := fw29
   refine av rfl rfl (wl_nil (q_n (k25 _ _ ?_)))
   refine sx_sub (Sub.c 6 rfl (.c 7 rfl .nil)) ?_
   refine sx_retc ?_
   refine q_br (q_r (sx_ret2 Tryz.results8 ⟨_, rfl, gw29.loadA (vs := [.bool ((stp ts a b).1), s28, t28]) (look_lit rfl) Tryz.isAgg30 Tryz.sizeOf30⟩ rfl ?_))
   have hrl := rOf_len (pv := pv) (ts := ts) (a := a) (b := b)
   have hps := (rOf_23 (show how pv ts a b = 2 ∨ how pv ts a b = 3 by omega)).2.ok
   rw [(rOf_23 (show how pv ts a b = 2 ∨ how pv ts a b = 3 by omega)).1] at hrl ⊢
   have q32 := Chg.step (l := 0) (h := 0) (Chg.zero (l := 0) (h := 0) (((cb2.t cb4).t c11).t c28)) cw29 (by omega)
   have f33 := os_28.chg cw29 (by omega)
   have f34 := ot_28.chg cw29 (by omega)
   exact ⟨_, _, _, _, _, _, by rw [hps], f33, f34, by omega, hrl, q32⟩
  refine sx_seq fun K35 k35 => sx_region ?_
  refine sp rfl (px_eq rfl rfl) ?_
  refine av rfl rfl (wl_nil (q_n (k35 _ _ ?_)))
  refine sx_sub (Sub.c 1 rfl (.c 2 rfl (.c 3 rfl (.c 6 rfl (.c 7 rfl (.c 25 rfl .nil)))))) ?_
  refine sx_condP rfl (fun h109 => ?_) (fun h109 => ?_)
  ·
   refine sx_seq fun K36 k36 => ?_
   have f37 := f8.ext c11
   refine dx_region (fun w' => Chg b4 (b4 + 1) w11 w') (by kernel_rfl) (Chg.zero (Chg.drew _)) ?_
   have d39 := Chg.drew w11
   have s39 : Chg b4 (b4 + 1) w11 (World.drew w11) := Chg.zero (Chg.drew _)
   have y39 : (World.drew w11).heap.size = w11.heap.size := rfl
   generalize World.drew w11 = w39 at *
   have zw39 := d39.size
   refine dt 0 rfl rfl rfl rfl s39 (fun _ hS => px_load rfl ((f37.chg hS (by omega)).loadA (vs := [.string pv, vt]) (look_lit rfl) Tryz.isAgg35 Tryz.sizeOf35)) ?_
   refine dt 1 rfl rfl rfl rfl s39 (fun _ hS => px_move rfl) ?_
   refine dt 2 rfl rfl rfl rfl s39 (fun _ hS => px_field rfl xfld35x0) ?_
   refine dt 3 rfl rfl rfl rfl s39 (fun _ hS => px_load rfl ((f37.chg hS (by omega)).load1 rfl Tryz.isAgg9)) ?_
   refine dt 5 rfl rfl rfl rfl s39 (fun _ hS => px_load rfl ((f37.chg hS (by omega)).loadA (vs := [.string pv, vt]) (look_lit rfl) Tryz.isAgg35 Tryz.sizeOf35)) ?_
   refine dt 6 rfl rfl rfl rfl s39 (fun _ hS => px_field rfl xfld35x0) ?_
   refine dt 7 rfl rfl rfl rfl s39 (fun _ hS => px_load rfl ((f37.chg hS (by omega)).load1 rfl Tryz.isAgg9)) ?_
   refine dt 8 rfl rfl rfl rfl s39 (fun _ hS => px_move rfl) ?_
   refine dx_eff 4 rfl (by kernel_rfl) ?_
   have f40 := (f10.ext c11).ext d39
   refine sx_call rfl rfl Tryz.call31 (c_l10Step f40 (by omega) (by first | assumption | exact fun i hi => Nat.le_trans (hzz i hi) (by omega)) ((how_ok (show how pv ts a b ≠ 0 by omega)).1.2.2) (by first | exact (how_4 h109).2.2.1 | exact (how_4 h109).2.2.2)) (fun v41 w41 p41 => ?_)
   obtain ⟨s41, t41, ls41, us41, lt41, ut41, rfl, os_41, ot_41, hd41, hl41, c41⟩ := p41
   have zw41 := c41.size
   have s42 : Chg b4 (b4 + 1) w11 w41 := (Chg.zero (l := b4) (h := (b4 + 1)) (d39.t c41))
   refine wl_nil ?_
   refine dx_next s42 ?_
   refine dx_eff 9 rfl (by kernel_rfl) ?_
   have f43 := f40.ext c41
   refine sx_call rfl rfl Tryz.call31 (c_l10Step f43 (by omega) (by first | assumption | exact fun i hi => Nat.le_trans (hzz i hi) (by omega)) ((how_ok (show how pv ts a b ≠ 0 by omega)).1.2.2) (by first | exact (how_4 h109).2.2.1 | exact (how_4 h109).2.2.2)) (fun v44 w44 p44 => ?_)
   obtain ⟨s44, t44, ls44, us44, lt44, ut44, rfl, os_44, ot_44, hd44, hl44, c44⟩ := p44
   have zw44 := c44.size
   have s45 : Chg b4 (b4 + 1) w11 w44 := (Chg.zero (l := b4) (h := (b4 + 1)) ((d39.t c41).t c44))
   refine wl_nil ?_
   refine dx_next s45 ?_
   refine dx_eff 10 rfl (by kernel_rfl) ?_
   have f46 := os_41.ext c44
   have f47 := ot_41.ext c44
   refine sx_call rfl rfl Tryz.call32 (c_sRatMul f46.sv f47.sv os_44.sv ot_44.sv (by omega)) (fun v48 w48 p48 => ?_)
   obtain ⟨s48, t48, ls48, us48, lt48, ut48, rfl, os_48, ot_48, hd48, hl48, c48⟩ := p48
   have zw48 := c48.size
   have s49 : Chg b4 (b4 + 1) w11 w48 := (Chg.zero (l := b4) (h := (b4 + 1)) (((d39.t c41).t c44).t c48))
   refine wl_nil ?_
   refine dx_next s49 ?_
   refine dt 11 rfl rfl rfl rfl s49 (fun _ hS => px_ex2 rfl rfl) ?_
   refine dt 12 rfl rfl rfl rfl s49 (fun _ hS => px_ex2 rfl rfl) ?_
   refine dx_eff 13 rfl (by kernel_rfl) ?_
   have f55 := ((((fb4.ext c11).ext d39).ext c41).ext c44).ext c48
   refine sx_store (vs := [.bool ((rMul ((stp ts a pv).1) ((stp ts a pv).2.1) ((stp ts a pv).2.2.1) ((stp ts pv b).1) ((stp ts pv b).2.1) ((stp ts pv b).2.2.1)).1), s48, t48]) rfl rfl f55 rfl Tryz.sizeOf30 (nbl rfl) (one_cons rfl (one_cons os_48.one (one_cons ot_48.one one_nil))) (fun w50 sw50 fw50 cw50 => ?_)
   have zw50 := cw50.size
   have gw50 : Blk w50 b4 [.bool ((rMul ((stp ts a pv).1) ((stp ts a pv).2.1) ((stp ts a pv).2.2.1) ((stp ts pv b).1) ((stp ts pv b).2.1) ((stp ts pv b).2.2.1)).1), s48, t48] 30 := fw50
   have q57 := Chg.step (l := b4) (h := (b4 + 1)) (Chg.zero (l := b4) (h := (b4 + 1)) (((d39.t c41).t c44).t c48)) cw50 (by omega)
   have s56 : Chg b4 (b4 + 1) w11 w50 := q57
   refine wl_nil ?_
   refine dx_next s56 ?_
   refine dt 14 rfl rfl rfl rfl s56 (fun _ hS => px_assign rfl) ?_
   refine dx_done (by kernel_rfl) ?_
   refine q_n (k36 _ _ ?_)
   refine sx_sub (Sub.c 6 rfl (.c 7 rfl .nil)) ?_
   refine sx_retc ?_
   refine q_br (q_r (sx_ret2 Tryz.results8 ⟨_, rfl, gw50.loadA (vs := [.bool ((rMul ((stp ts a pv).1) ((stp ts a pv).2.1) ((stp ts a pv).2.2.1) ((stp ts pv b).1) ((stp ts pv b).2.1) ((stp ts pv b).2.2.1)).1), s48, t48]) (look_lit rfl) Tryz.isAgg30 Tryz.sizeOf30⟩ rfl ?_))
   have hrl := rOf_len (pv := pv) (ts := ts) (a := a) (b := b)
   rw [(rOf_4 h109).2.2.2.2.2.2] at hrl ⊢
   have q58 := Chg.step (l := 0) (h := 0) (Chg.zero (l := 0) (h := 0) ((((((cb2.t cb4).t c11).t d39).t c41).t c44).t c48)) cw50 (by omega)
   have f59 := os_48.chg cw50 (by omega)
   have f60 := ot_48.chg cw50 (by omega)
   exact ⟨_, _, _, _, _, _, rfl, f59, f60, by omega, hrl, q58⟩
  refine sx_skip ?_
  refine q_bn (q_n (k6 _ _ ?_))
  refine sx_seq fun K61 k61 => sx_region ?_
  refine sp rfl (px_build rfl (xbld30x  _)) ?_
  have f63 := fb4.ext c11
  refine sx_store (vs := [.bool false, (.slice none 0 0), (.slice none 0 0)]) rfl rfl f63 rfl Tryz.sizeOf30 (nbl rfl) (o3 rfl rfl rfl) (fun w62 sw62 fw62 cw62 => ?_)
  have zw62 := cw62.size
  have gw62 : Blk w62 b4 [.bool false, (.slice none 0 0), (.slice none 0 0)] 30 := fw62
  refine av rfl rfl (wl_nil (q_n (k61 _ _ ?_)))
  refine sx_retc ?_
  refine sx_ret2 Tryz.results8 ⟨_, rfl, gw62.loadA (vs := [.bool false, (.slice none 0 0), (.slice none 0 0)]) (look_lit rfl) Tryz.isAgg30 Tryz.sizeOf30⟩ rfl ?_
  rw [rOf_0 h105 (by omega) (by omega) h109]
  have q64 := Chg.step (l := 0) (h := 0) (Chg.zero (l := 0) (h := 0) ((cb2.t cb4).t c11)) cw62 (by omega)
  exact ⟨_, _, w.heap.size, w.heap.size, w.heap.size, w.heap.size, rfl, Own.nil _ _ _ _ _, Own.nil _ _ _ _ _, by omega, ⟨by simp [noR], by simp [noR]⟩, q64⟩
 refine sx_region ?_
 refine sp rfl (px_eq rfl rfl) ?_
 refine av rfl rfl (wl_nil (q_n (k23 _ _ ?_)))
 refine sx_sub (Sub.c 1 rfl (.c 2 rfl (.c 3 rfl (.c 6 rfl (.c 7 rfl (.c 11 rfl (.c 18 rfl .nil))))))) ?_
 refine sx_condP rfl (fun h107x1 => ?_) (fun h107x1 => ?_)
 ·
  refine sx_seq fun K65 k65 => sx_region ?_
  have f66 := f8.ext c11
  refine sp rfl (px_load rfl (f66.loadA (vs := [.string pv, vt]) (look_lit rfl) Tryz.isAgg35 Tryz.sizeOf35)) ?_
  refine mv rfl rfl (mv rfl rfl ?_)
  have f67 := f10.ext c11
  refine sx_call rfl rfl Tryz.call31 (c_l10Step f67 (by omega) (by first | assumption | exact fun i hi => Nat.le_trans (hzz i hi) (by omega)) ((how_ok (show how pv ts a b ≠ 0 by omega)).1.2.2) (leg_23 (pv := pv) (by omega))) (fun v68 w68 p68 => ?_)
  obtain ⟨s68, t68, ls68, us68, lt68, ut68, rfl, os_68, ot_68, hd68, hl68, c68⟩ := p68
  have zw68 := c68.size
  have f71 := (fb4.ext c11).ext c68
  refine sx_store (vs := [.bool ((stp ts a b).1), s68, t68]) rfl rfl f71 rfl Tryz.sizeOf30 (nbl rfl) (one_cons rfl (one_cons os_68.one (one_cons ot_68.one one_nil))) (fun w69 sw69 fw69 cw69 => ?_)
  have zw69 := cw69.size
  have gw69 : Blk w69 b4 [.bool ((stp ts a b).1), s68, t68] 30 := fw69
  refine av rfl rfl (wl_nil (q_n (k65 _ _ ?_)))
  refine sx_retc ?_
  refine q_br (q_r (sx_ret2 Tryz.results8 ⟨_, rfl, gw69.loadA (vs := [.bool ((stp ts a b).1), s68, t68]) (look_lit rfl) Tryz.isAgg30 Tryz.sizeOf30⟩ rfl ?_))
  have hrl := rOf_len (pv := pv) (ts := ts) (a := a) (b := b)
  have hps := (rOf_23 (show how pv ts a b = 2 ∨ how pv ts a b = 3 by omega)).2.ok
  rw [(rOf_23 (show how pv ts a b = 2 ∨ how pv ts a b = 3 by omega)).1] at hrl ⊢
  have q72 := Chg.step (l := 0) (h := 0) (Chg.zero (l := 0) (h := 0) (((cb2.t cb4).t c11).t c68)) cw69 (by omega)
  have f73 := os_68.chg cw69 (by omega)
  have f74 := ot_68.chg cw69 (by omega)
  exact ⟨_, _, _, _, _, _, by rw [hps], f73, f74, by omega, hrl, q72⟩
 refine sx_seq fun K75 k75 => sx_region ?_
 refine sp rfl (px_eq rfl rfl) ?_
 refine av rfl rfl (wl_nil (q_n (k75 _ _ ?_)))
 refine sx_condP rfl (fun h109 => ?_) (fun h109 => ?_)
 ·
  refine sx_seq fun K76 k76 => ?_
  have f77 := f8.ext c11
  refine dx_region (fun w' => Chg b4 (b4 + 1) w11 w') (by kernel_rfl) (Chg.zero (Chg.drew _)) ?_
  have d79 := Chg.drew w11
  have s79 : Chg b4 (b4 + 1) w11 (World.drew w11) := Chg.zero (Chg.drew _)
  have y79 : (World.drew w11).heap.size = w11.heap.size := rfl
  generalize World.drew w11 = w79 at *
  have zw79 := d79.size
  refine dt 0 rfl rfl rfl rfl s79 (fun _ hS => px_load rfl ((f77.chg hS (by omega)).loadA (vs := [.string pv, vt]) (look_lit rfl) Tryz.isAgg35 Tryz.sizeOf35)) ?_
  refine dt 1 rfl rfl rfl rfl s79 (fun _ hS => px_move rfl) ?_
  refine dt 2 rfl rfl rfl rfl s79 (fun _ hS => px_field rfl xfld35x0) ?_
  refine dt 3 rfl rfl rfl rfl s79 (fun _ hS => px_load rfl ((f77.chg hS (by omega)).load1 rfl Tryz.isAgg9)) ?_
  refine dt 5 rfl rfl rfl rfl s79 (fun _ hS => px_load rfl ((f77.chg hS (by omega)).loadA (vs := [.string pv, vt]) (look_lit rfl) Tryz.isAgg35 Tryz.sizeOf35)) ?_
  refine dt 6 rfl rfl rfl rfl s79 (fun _ hS => px_field rfl xfld35x0) ?_
  refine dt 7 rfl rfl rfl rfl s79 (fun _ hS => px_load rfl ((f77.chg hS (by omega)).load1 rfl Tryz.isAgg9)) ?_
  refine dt 8 rfl rfl rfl rfl s79 (fun _ hS => px_move rfl) ?_
  refine dx_eff 4 rfl (by kernel_rfl) ?_
  have f80 := (f10.ext c11).ext d79
  refine sx_call rfl rfl Tryz.call31 (c_l10Step f80 (by omega) (by first | assumption | exact fun i hi => Nat.le_trans (hzz i hi) (by omega)) ((how_ok (show how pv ts a b ≠ 0 by omega)).1.2.2) (by first | exact (how_4 h109).2.2.1 | exact (how_4 h109).2.2.2)) (fun v81 w81 p81 => ?_)
  obtain ⟨s81, t81, ls81, us81, lt81, ut81, rfl, os_81, ot_81, hd81, hl81, c81⟩ := p81
  have zw81 := c81.size
  have s82 : Chg b4 (b4 + 1) w11 w81 := (Chg.zero (l := b4) (h := (b4 + 1)) (d79.t c81))
  refine wl_nil ?_
  refine dx_next s82 ?_
  refine dx_eff 9 rfl (by kernel_rfl) ?_
  have f83 := f80.ext c81
  refine sx_call rfl rfl Tryz.call31 (c_l10Step f83 (by omega) (by first | assumption | exact fun i hi => Nat.le_trans (hzz i hi) (by omega)) ((how_ok (show how pv ts a b ≠ 0 by omega)).1.2.2) (by first | exact (how_4 h109).2.2.1 | exact (how_4 h109).2.2.2)) (fun v84 w84 p84 => ?_)
  obtain ⟨s84, t84, ls84, us84, lt84, ut84, rfl, os_84, ot_84, hd84, hl84, c84⟩ := p84
  have zw84 := c84.size
  have s85 : Chg b4 (b4 + 1) w11 w84 := (Chg.zero (l := b4) (h := (b4 + 1)) ((d79.t c81).t c84))
  refine wl_nil ?_
  refine dx_next s85 ?_
  refine dx_eff 10 rfl (by kernel_rfl) ?_
  have f86 := os_81.ext c84
  have f87 := ot_81.ext c84
  refine sx_call rfl rfl Tryz.call32 (c_sRatMul f86.sv f87.sv os_84.sv ot_84.sv (by omega)) (fun v88 w88 p88 => ?_)
  obtain ⟨s88, t88, ls88, us88, lt88, ut88, rfl, os_88, ot_88, hd88, hl88, c88⟩ := p88
  have zw88 := c88.size
  have s89 : Chg b4 (b4 + 1) w11 w88 := (Chg.zero (l := b4) (h := (b4 + 1)) (((d79.t c81).t c84).t c88))
  refine wl_nil ?_
  refine dx_next s89 ?_
  refine dt 11 rfl rfl rfl rfl s89 (fun _ hS => px_ex2 rfl rfl) ?_
  refine dt 12 rfl rfl rfl rfl s89 (fun _ hS => px_ex2 rfl rfl) ?_
  refine dx_eff 13 rfl (by kernel_rfl) ?_
  have f95 := ((((fb4.ext c11).ext d79).ext c81).ext c84).ext c88
  refine sx_store (vs := [.bool ((rMul ((stp ts a pv).1) ((stp ts a pv).2.1) ((stp ts a pv).2.2.1) ((stp ts pv b).1) ((stp ts pv b).2.1) ((stp ts pv b).2.2.1)).1), s88, t88]) rfl rfl f95 rfl Tryz.sizeOf30 (nbl rfl) (one_cons rfl (one_cons os_88.one (one_cons ot_88.one one_nil))) (fun w90 sw90 fw90 cw90 => ?_)
  have zw90 := cw90.size
  have gw90 : Blk w90 b4 [.bool ((rMul ((stp ts a pv).1) ((stp ts a pv).2.1) ((stp ts a pv).2.2.1) ((stp ts pv b).1) ((stp ts pv b).2.1) ((stp ts pv b).2.2.1)).1), s88, t88] 30 := fw90
  have q97 := Chg.step (l := b4) (h := (b4 + 1)) (Chg.zero (l := b4) (h := (b4 + 1)) (((d79.t c81).t c84).t c88)) cw90 (by omega)
  have s96 : Chg b4 (b4 + 1) w11 w90 := q97
  refine wl_nil ?_
  refine dx_next s96 ?_
  refine dt 14 rfl rfl rfl rfl s96 (fun _ hS => px_assign rfl) ?_
  refine dx_done (by kernel_rfl) ?_
  refine q_n (k76 _ _ ?_)
  refine sx_sub (Sub.c 6 rfl (.c 7 rfl .nil)) ?_
  refine sx_retc ?_
  refine q_br (q_r (sx_ret2 Tryz.results8 ⟨_, rfl, gw90.loadA (vs := [.bool ((rMul ((stp ts a pv).1) ((stp ts a pv).2.1) ((stp ts a pv).2.2.1) ((stp ts pv b).1) ((stp ts pv b).2.1) ((stp ts pv b).2.2.1)).1), s88, t88]) (look_lit rfl) Tryz.isAgg30 Tryz.sizeOf30⟩ rfl ?_))
  have hrl := rOf_len (pv := pv) (ts := ts) (a := a) (b := b)
  rw [(rOf_4 h109).2.2.2.2.2.2] at hrl ⊢
  have q98 := Chg.step (l := 0) (h := 0) (Chg.zero (l := 0) (h := 0) ((((((cb2.t cb4).t c11).t d79).t c81).t c84).t c88)) cw90 (by omega)
  have f99 := os_88.chg cw90 (by omega)
  have f100 := ot_88.chg cw90 (by omega)
  exact ⟨_, _, _, _, _, _, rfl, f99, f100, by omega, hrl, q98⟩
 refine sx_skip ?_
 refine q_bn (q_n (k6 _ _ ?_))
 refine sx_seq fun K101 k101 => sx_region ?_
 refine sp rfl (px_build rfl (xbld30x  _)) ?_
 have f103 := fb4.ext c11
 refine sx_store (vs := [.bool false, (.slice none 0 0), (.slice none 0 0)]) rfl rfl f103 rfl Tryz.sizeOf30 (nbl rfl) (o3 rfl rfl rfl) (fun w102 sw102 fw102 cw102 => ?_)
 have zw102 := cw102.size
 have gw102 : Blk w102 b4 [.bool false, (.slice none 0 0), (.slice none 0 0)] 30 := fw102
 refine av rfl rfl (wl_nil (q_n (k101 _ _ ?_)))
 refine sx_retc ?_
 refine sx_ret2 Tryz.results8 ⟨_, rfl, gw102.loadA (vs := [.bool false, (.slice none 0 0), (.slice none 0 0)]) (look_lit rfl) Tryz.isAgg30 Tryz.sizeOf30⟩ rfl ?_
 rw [rOf_0 h105 (by omega) (by omega) h109]
 have q104 := Chg.step (l := 0) (h := 0) (Chg.zero (l := 0) (h := 0) ((cb2.t cb4).t c11)) cw102 (by omega)
 exact ⟨_, _, w.heap.size, w.heap.size, w.heap.size, w.heap.size, rfl, Own.nil _ _ _ _ _, Own.nil _ _ _ _ _, by omega, ⟨by simp [noR], by simp [noR]⟩, q104⟩

theorem c_sCurPlaces {w : World} {s : ByteArray} :
  Ret Tryz.prog 89 [.string s] w fun v w' => v = .int .i64 ((curOf s).places) ∧ Chg 0 0 w w' := by
 refine sx_enter Tryz.func89 rfl Tryz.ntmps89 (nbl rfl) ?_
 refine sx_seq fun K1 k1 => sx_region ?_
 refine av rfl rfl (wl_nil (q_n (k1 _ _ ?_)))
 refine sx_seq fun K2 k2 => sx_region ?_
 refine mv rfl rfl (sx_call rfl rfl Tryz.call107 (c_l08Find) (fun v3 w3 p3 => ?_))
 obtain ⟨rfl, c3⟩ := p3
 have zw3 := c3.size
 refine sp rfl (px_fieldv rfl (xfv131x2 _)) ?_
 refine av rfl rfl (wl_nil (q_n (k2 _ _ ?_)))
 refine sx_retc ?_
 refine sx_ret1 Tryz.results89 rfl ?_
 exact ⟨rfl, c3⟩

theorem c_sCurUnit {w : World} {cc : ByteArray} :
  Ret Tryz.prog 50 [.string cc] w fun v w' => ∃ s t ls us lt ut, v = .agg #[.bool ((cUnit cc).1), s, t] ∧ OwnI w' (ls) (us) s intT ((cUnit cc).2.1) ∧ OwnI w' (lt) (ut) t intT ((cUnit cc).2.2.1) ∧ (w.heap.size ≤ ls ∧ us ≤ w'.heap.size ∧ w.heap.size ≤ lt ∧ ut ≤ w'.heap.size ∧ (us ≤ lt ∨ ut ≤ ls)) ∧ ((cUnit cc).2.1.length ≤ 18 ∧ (cUnit cc).2.2.1.length ≤ 18) ∧ Chg 0 0 w w' := by
 have hcp := cur_places cc
 refine sx_enter Tryz.func50 rfl Tryz.ntmps50 (nbl rfl) ?_
 refine sx_seq fun K1 k1 => sx_region ?_
 refine sx_alloc [.bool false, (.slice none 0 0), (.slice none 0 0)] rfl Tryz.zeroValue30 rfl (fun b2 w3 eb2 sb2 fb2 cb2 => ?_)
 have zw3 := cb2.size
 refine wl_nil (q_n (k1 _ _ ?_))
 refine sx_seq fun K4 k4 => ?_
 refine sx_seq fun K5 k5 => sx_region ?_
 refine mv rfl rfl (sx_call rfl rfl Tryz.call67 (c_sCurKnown) (fun v6 w6 p6 => ?_))
 obtain ⟨rfl, c6⟩ := p6
 have zw6 := c6.size
 refine sp rfl (px_notP rfl) ?_
 refine wl_nil (q_n (k5 _ _ ?_))
 refine sx_condP rfl (fun h65 => ?_) (fun h65 => ?_)
 ·
  refine sx_seq fun K7 k7 => sx_region ?_
  refine sp rfl (px_build rfl (xbld30x  _)) ?_
  have f9 := fb2.ext c6
  refine sx_store (vs := [.bool false, (.slice none 0 0), (.slice none 0 0)]) rfl rfl f9 rfl Tryz.sizeOf30 (nbl rfl) (o3 rfl rfl rfl) (fun w8 sw8 fw8 cw8 => ?_)
  have zw8 := cw8.size
  have gw8 : Blk w8 b2 [.bool false, (.slice none 0 0), (.slice none 0 0)] 30 := fw8
  refine wl_nil (q_n (k7 _ _ ?_))
  refine sx_retc ?_
  refine q_r (sx_ret1 Tryz.results50 ⟨_, rfl, gw8.loadA (vs := [.bool false, (.slice none 0 0), (.slice none 0 0)]) (look_lit rfl) Tryz.isAgg30 Tryz.sizeOf30⟩ ?_)
  rw [cUnit_no (by assumption)]
  have q10 := Chg.step (l := 0) (h := 0) (Chg.zero (l := 0) (h := 0) (cb2.t c6)) cw8 (by omega)
  exact ⟨_, _, w.heap.size, w.heap.size, w.heap.size, w.heap.size, rfl, Own.nil _ _ _ _ _, Own.nil _ _ _ _ _, by omega, ⟨by simp [noR], by simp [noR]⟩, q10⟩
 refine sx_skip ?_
 refine q_n (k4 _ _ ?_)
 refine sx_seq fun K11 k11 => sx_region ?_
 refine mv rfl rfl (sx_call rfl rfl Tryz.call89 (c_sCurPlaces) (fun v12 w12 p12 => ?_))
 obtain ⟨rfl, c12⟩ := p12
 have zw12 := c12.size
 refine sx_call rfl rfl Tryz.call88 (c_l07Ten (by omega)) (fun v13 w13 p13 => ?_)
 obtain ⟨s13, rfl, os_13, c13⟩ := p13
 have zw13 := c13.size
 refine sx_lit1 rfl xelt26 rfl rfl (fun s14 ws14 ss14 fs14 cs14 => ?_)
 have ns14 := Own.norm (f := (Value.int .i64)) (zs := [1]) fs14
 have zws14 := cs14.size
 refine sp rfl (px_build rfl (xbld30x0x1 ns14.one _)) ?_
 have f19 := (((fb2.ext c6).ext c12).ext c13).ext cs14
 have f20 := os_13.ext cs14
 refine sx_store (vs := [.bool (ng (tenI ((curOf cc).places))), s13, s14]) rfl rfl f19 rfl Tryz.sizeOf30 (nbl rfl) (one_cons rfl (one_cons f20.one (one_cons ns14.one one_nil))) (fun w15 sw15 fw15 cw15 => ?_)
 have zw15 := cw15.size
 have gw15 : Blk w15 b2 [.bool (ng (tenI ((curOf cc).places))), s13, s14] 30 := fw15
 refine wl_nil (q_n (k11 _ _ ?_))
 refine sx_retc ?_
 refine sx_ret1 Tryz.results50 ⟨_, rfl, gw15.loadA (vs := [.bool (ng (tenI ((curOf cc).places))), s13, s14]) (look_lit rfl) Tryz.isAgg30 Tryz.sizeOf30⟩ ?_
 have hrl := cUnit_len (s := cc)
 have f21 := f20.chg cw15 (by omega)
 have hr1 := f21
 rw [tenI_abs] at hr1
 rw [cUnit_ok (by first | assumption | exact Decidable.not_not.1 (by assumption))] at hrl ⊢
 have q22 := Chg.step (l := 0) (h := 0) (Chg.zero (l := 0) (h := 0) ((((cb2.t c6).t c12).t c13).t cs14)) cw15 (by omega)
 have f23 := ns14.chg cw15 (by omega)
 exact ⟨_, _, _, _, _, _, by rw [← ten_ng], hr1, f23, by omega, hrl, q22⟩

theorem c_sUnitRate {w : World} {pv : ByteArray} {vt : Value} {lvt uvt : Nat} {ts : List Rt} {vvt : List Value} {a : ByteArray} {b : ByteArray} (hvt : RtS w lvt uvt vt ts vvt) (h63 : ts.length ≤ 4611686018427387904) (hz : ∀ i, i < ts.length → (ts.getD i rt0).2.2.2.1.length ≤ 4611686018427387904) :
  Ret Tryz.prog 16 [.agg #[.string pv, vt], .string a, .string b] w fun v w' => ∃ s t ls us lt ut, v = .tuple #[.agg #[.bool ((uRt pv ts a b).1), s, t], .bool ((uRt pv ts a b).2.2.2)] ∧ OwnI w' (ls) (us) s intT ((uRt pv ts a b).2.1) ∧ OwnI w' (lt) (ut) t intT ((uRt pv ts a b).2.2.1) ∧ (w.heap.size ≤ ls ∧ us ≤ w'.heap.size ∧ w.heap.size ≤ lt ∧ ut ≤ w'.heap.size ∧ (us ≤ lt ∨ ut ≤ ls)) ∧ ((uRt pv ts a b).2.1.length ≤ 18 ∧ (uRt pv ts a b).2.2.1.length ≤ 18) ∧ Chg 0 0 w w' := by
 have hvt0 := hvt.fit
 refine sx_enter Tryz.func16 rfl Tryz.ntmps16 (nbl rfl) ?_
 refine sx_seq fun K1 k1 => sx_region ?_
 refine sx_box [.string pv, vt] rfl rfl rfl (fun b2 w3 eb2 sb2 fb2 cb2 => ?_)
 have zw3 := cb2.size
 refine sx_alloc [.bool false, (.slice none 0 0), (.slice none 0 0)] rfl Tryz.zeroValue30 rfl (fun b4 w5 eb4 sb4 fb4 cb4 => ?_)
 have zw5 := cb4.size
 refine av rfl rfl (wl_nil (q_n (k1 _ _ ?_)))
 refine sx_seq fun K6 k6 => sx_region ?_
 have f7 := fb2.ext cb4
 refine sp rfl (px_load rfl (f7.loadA (vs := [.string pv, vt]) (look_lit rfl) Tryz.isAgg35 Tryz.sizeOf35)) ?_
 refine mv rfl rfl (mv rfl rfl ?_)
 have f8 := hvt0.ext cb2
 have f9 := f8.ext cb4
 refine sx_call rfl rfl Tryz.call8 (c_sRateOf f9 (by omega) (by first | assumption | exact fun i hi => Nat.le_trans (hzz i hi) (by omega))) (fun v10 w10 p10 => ?_)
 obtain ⟨s10, t10, ls10, us10, lt10, ut10, rfl, os_10, ot_10, hd10, hl10, c10⟩ := p10
 have zw10 := c10.size
 refine mv rfl rfl (sp rfl (px_ex2 rfl rfl) ?_)
 refine sp rfl (px_ex2 rfl rfl) ?_
 refine sx_alloc [.bool false, (.slice none 0 0), (.slice none 0 0)] rfl Tryz.zeroValue30 rfl (fun b11 w12 eb11 sb11 fb11 cb11 => ?_)
 have zw12 := cb11.size
 have f14 := ot_10.ext cb11
 have f15 := os_10.ext cb11
 refine sx_store (vs := [.bool ((rOf pv ts a b).1), s10, t10]) rfl rfl fb11 rfl Tryz.sizeOf30 (nbl rfl) (one_cons rfl (one_cons f15.one (one_cons f14.one one_nil))) (fun w13 sw13 fw13 cw13 => ?_)
 have zw13 := cw13.size
 have gw13 : Blk w13 b11 [.bool ((rOf pv ts a b).1), s10, t10] 30 := fw13
 refine av rfl rfl (wl_nil (q_n (k6 _ _ ?_)))
 refine sx_sub (Sub.c 1 rfl (.c 2 rfl (.c 6 rfl (.c 7 rfl (.c 8 rfl (.c 9 rfl .nil)))))) ?_
 refine sx_seq fun K16 k16 => ?_
 refine sx_seq fun K17 k17 => sx_region ?_
 refine mv rfl rfl (sp rfl (px_not rfl) ?_)
 refine wl_nil (q_n (k17 _ _ ?_))
 refine sx_condB rfl (fun h8 => ?_) (fun h8 => ?_)
 ·
  refine sx_seq fun K18 k18 => sx_region ?_
  refine sp rfl (px_build rfl (xbld30x  _)) ?_
  have f21 := (fb4.ext c10).ext cb11
  have f22 := f21.chg cw13 (by omega)
  refine sx_store (vs := [.bool false, (.slice none 0 0), (.slice none 0 0)]) rfl rfl f22 rfl Tryz.sizeOf30 (nbl rfl) (o3 rfl rfl rfl) (fun w19 sw19 fw19 cw19 => ?_)
  have zw19 := cw19.size
  have gw19 : Blk w19 b4 [.bool false, (.slice none 0 0), (.slice none 0 0)] 30 := fw19
  refine av rfl rfl (wl_nil (q_n (k18 _ _ ?_)))
  refine sx_retc ?_
  refine q_r (sx_ret2 Tryz.results16 ⟨_, rfl, gw19.loadA (vs := [.bool false, (.slice none 0 0), (.slice none 0 0)]) (look_lit rfl) Tryz.isAgg30 Tryz.sizeOf30⟩ rfl ?_)
  rw [uRt_no (bnot_t h8)]
  have q23 := Chg.step (l := 0) (h := 0) (Chg.zero (l := 0) (h := 0) (((cb2.t cb4).t c10).t cb11)) cw13 (by omega)
  have q24 := Chg.step (l := 0) (h := 0) q23 cw19 (by omega)
  exact ⟨_, _, w.heap.size, w.heap.size, w.heap.size, w.heap.size, rfl, Own.nil _ _ _ _ _, Own.nil _ _ _ _ _, by omega, ⟨by simp [noR], by simp [noR]⟩, q24⟩
 refine sx_skip ?_
 refine q_n (k16 _ _ ?_)
 refine sx_seq fun K25 k25 => sx_region ?_
 refine mv rfl rfl (sx_call rfl rfl Tryz.call50 (c_sCurUnit) (fun v26 w26 p26 => ?_))
 obtain ⟨s26, t26, ls26, us26, lt26, ut26, rfl, os_26, ot_26, hd26, hl26, c26⟩ := p26
 have zw26 := c26.size
 refine mv rfl rfl (sx_call rfl rfl Tryz.call50 (c_sCurUnit) (fun v27 w27 p27 => ?_))
 obtain ⟨s27, t27, ls27, us27, lt27, ut27, rfl, os_27, ot_27, hd27, hl27, c27⟩ := p27
 have zw27 := c27.size
 have f28 := os_26.ext c27
 have f29 := ot_26.ext c27
 refine sx_call rfl rfl Tryz.call49 (c_sRatDiv f28.sv f29.sv os_27.sv ot_27.sv (by omega)) (fun v30 w30 p30 => ?_)
 obtain ⟨s30, t30, ls30, us30, lt30, ut30, rfl, os_30, ot_30, hd30, hl30, c30⟩ := p30
 have zw30 := c30.size
 refine mv rfl rfl (sp rfl (px_ex2 rfl rfl) ?_)
 refine sp rfl (px_ex2 rfl rfl) ?_
 refine sx_alloc [.bool false, (.slice none 0 0), (.slice none 0 0)] rfl Tryz.zeroValue30 rfl (fun b31 w32 eb31 sb31 fb31 cb31 => ?_)
 have zw32 := cb31.size
 have f34 := ot_30.ext cb31
 have f35 := os_30.ext cb31
 refine sx_store (vs := [.bool ((rDiv ((cUnit b).1) ((cUnit b).2.1) ((cUnit b).2.2.1) ((cUnit a).1) ((cUnit a).2.1) ((cUnit a).2.2.1)).1), s30, t30]) rfl rfl fb31 rfl Tryz.sizeOf30 (nbl rfl) (one_cons rfl (one_cons f35.one (one_cons f34.one one_nil))) (fun w33 sw33 fw33 cw33 => ?_)
 have zw33 := cw33.size
 have gw33 : Blk w33 b31 [.bool ((rDiv ((cUnit b).1) ((cUnit b).2.1) ((cUnit b).2.2.1) ((cUnit a).1) ((cUnit a).2.1) ((cUnit a).2.2.1)).1), s30, t30] 30 := fw33
 refine av rfl rfl (wl_nil (q_n (k25 _ _ ?_)))
 refine sx_sub (Sub.c 6 rfl (.c 7 rfl (.c 8 rfl (.c 10 rfl .nil)))) ?_
 refine sx_seq fun K36 k36 => sx_region ?_
 have f40 := (((gw13.ext c26).ext c27).ext c30).ext cb31
 have f41 := f40.chg cw33 (by omega)
 refine sp rfl (px_load rfl (f41.loadA (vs := [.bool ((rOf pv ts a b).1), s10, t10]) (look_lit rfl) Tryz.isAgg30 Tryz.sizeOf30)) ?_
 refine sp rfl (px_load rfl (gw33.loadA (vs := [.bool ((rDiv ((cUnit b).1) ((cUnit b).2.1) ((cUnit b).2.2.1) ((cUnit a).1) ((cUnit a).2.1) ((cUnit a).2.2.1)).1), s30, t30]) (look_lit rfl) Tryz.isAgg30 Tryz.sizeOf30)) ?_
 have f42 := f15.chg cw13 (by omega)
 have f46 := (((f42.ext c26).ext c27).ext c30).ext cb31
 have f47 := f46.chg cw33 (by omega)
 have f48 := f14.chg cw13 (by omega)
 have f52 := (((f48.ext c26).ext c27).ext c30).ext cb31
 have f53 := f52.chg cw33 (by omega)
 have f54 := f35.chg cw33 (by omega)
 have f55 := f34.chg cw33 (by omega)
 refine sx_call rfl rfl Tryz.call32 (c_sRatMul f47.sv f53.sv f54.sv f55.sv (by have h8 := rOf_len (pv := pv) (ts := ts) (a := a) (b := b); have h9 := rDiv_len (n1 := (cUnit b).1) (z1 := (cUnit b).2.1) (y1 := (cUnit b).2.2.1) (n2 := (cUnit a).1) (z2 := (cUnit a).2.1) (y2 := (cUnit a).2.2.1); omega)) (fun v56 w56 p56 => ?_)
 obtain ⟨s56, t56, ls56, us56, lt56, ut56, rfl, os_56, ot_56, hd56, hl56, c56⟩ := p56
 have zw56 := c56.size
 refine sp rfl (px_ex2 rfl rfl) ?_
 refine sp rfl (px_ex2 rfl rfl) ?_
 have f59 := (fb4.ext c10).ext cb11
 have f60 := f59.chg cw13 (by omega)
 have f64 := (((f60.ext c26).ext c27).ext c30).ext cb31
 have f65 := f64.chg cw33 (by omega)
 have f66 := f65.ext c56
 refine sx_store (vs := [.bool ((rMul ((rOf pv ts a b).1) ((rOf pv ts a b).2.1) ((rOf pv ts a b).2.2.1) ((rDiv ((cUnit b).1) ((cUnit b).2.1) ((cUnit b).2.2.1) ((cUnit a).1) ((cUnit a).2.1) ((cUnit a).2.2.1)).1) ((rDiv ((cUnit b).1) ((cUnit b).2.1) ((cUnit b).2.2.1) ((cUnit a).1) ((cUnit a).2.1) ((cUnit a).2.2.1)).2.1) ((rDiv ((cUnit b).1) ((cUnit b).2.1) ((cUnit b).2.2.1) ((cUnit a).1) ((cUnit a).2.1) ((cUnit a).2.2.1)).2.2.1)).1), s56, t56]) rfl rfl f66 rfl Tryz.sizeOf30 (nbl rfl) (one_cons rfl (one_cons os_56.one (one_cons ot_56.one one_nil))) (fun w57 sw57 fw57 cw57 => ?_)
 have zw57 := cw57.size
 have gw57 : Blk w57 b4 [.bool ((rMul ((rOf pv ts a b).1) ((rOf pv ts a b).2.1) ((rOf pv ts a b).2.2.1) ((rDiv ((cUnit b).1) ((cUnit b).2.1) ((cUnit b).2.2.1) ((cUnit a).1) ((cUnit a).2.1) ((cUnit a).2.2.1)).1) ((rDiv ((cUnit b).1) ((cUnit b).2.1) ((cUnit b).2.2.1) ((cUnit a).1) ((cUnit a).2.1) ((cUnit a).2.2.1)).2.1) ((rDiv ((cUnit b).1) ((cUnit b).2.1) ((cUnit b).2.2.1) ((cUnit a).1) ((cUnit a).2.1) ((cUnit a).2.2.1)).2.2.1)).1), s56, t56] 30 := fw57
 refine av rfl rfl (wl_nil (q_n (k36 _ _ ?_)))
 refine sx_retc ?_
 refine sx_ret2 Tryz.results16 ⟨_, rfl, gw57.loadA (vs := [.bool ((rMul ((rOf pv ts a b).1) ((rOf pv ts a b).2.1) ((rOf pv ts a b).2.2.1) ((rDiv ((cUnit b).1) ((cUnit b).2.1) ((cUnit b).2.2.1) ((cUnit a).1) ((cUnit a).2.1) ((cUnit a).2.2.1)).1) ((rDiv ((cUnit b).1) ((cUnit b).2.1) ((cUnit b).2.2.1) ((cUnit a).1) ((cUnit a).2.1) ((cUnit a).2.2.1)).2.1) ((rDiv ((cUnit b).1) ((cUnit b).2.1) ((cUnit b).2.2.1) ((cUnit a).1) ((cUnit a).2.1) ((cUnit a).2.2.1)).2.2.1)).1), s56, t56]) (look_lit rfl) Tryz.isAgg30 Tryz.sizeOf30⟩ rfl ?_
 have hrl := uRt_len (pv := pv) (ts := ts) (a := a) (b := b)
 rw [uRt_mul (bnot_f h8)] at hrl ⊢
 have q67 := Chg.step (l := 0) (h := 0) (Chg.zero (l := 0) (h := 0) (((cb2.t cb4).t c10).t cb11)) cw13 (by omega)
 have q68 := Chg.step (l := 0) (h := 0) q67 (((c26.t c27).t c30).t cb31) (by omega)
 have q69 := Chg.step (l := 0) (h := 0) q68 cw33 (by omega)
 have q70 := Chg.step (l := 0) (h := 0) q69 c56 (by omega)
 have q71 := Chg.step (l := 0) (h := 0) q70 cw57 (by omega)
 have f72 := os_56.chg cw57 (by omega)
 have f73 := ot_56.chg cw57 (by omega)
 exact ⟨_, _, _, _, _, _, rfl, f72, f73, by omega, hrl, q71⟩

theorem c_sMoneyOk {w : World} {c1 : ByteArray} {n1 : Bool} {v1 : Value} {lv1 uv1 : Nat} {z1 : List Int} (hv1 : Sl w lv1 uv1 v1 (z1)) (h63 : z1.length ≤ 4611686018427387904) :
  Ret Tryz.prog 57 [.agg #[.string c1, .bool n1, v1]] w fun v w' => v = .bool (decide (MOk c1 n1 z1)) ∧ Chg 0 0 w w' := by
 have hv10 := hv1.fit
 refine sx_enter Tryz.func57 rfl Tryz.ntmps57 (nbl rfl) ?_
 refine sx_seq fun K1 k1 => sx_region ?_
 refine sx_box [.string c1, .bool n1, v1] rfl rfl rfl (fun b2 w3 eb2 sb2 fb2 cb2 => ?_)
 have zw3 := cb2.size
 refine av rfl rfl (wl_nil (q_n (k1 _ _ ?_)))
 refine sx_seq fun K4 k4 => sx_region ?_
 refine sp rfl (px_field rfl xfld48x0) ?_
 refine sp rfl (px_load rfl (fb2.load1 rfl Tryz.isAgg9)) ?_
 refine sx_call rfl rfl Tryz.call67 (c_sCurKnown) (fun v5 w5 p5 => ?_)
 obtain ⟨rfl, c5⟩ := p5
 have zw5 := c5.size
 refine mv rfl rfl ?_
 refine sx_tmpP (t := 6) rfl (fun h7 => ?_) (fun h7 => ?_)
 ·
  refine sx_guardT rfl rfl rfl ?_
  refine sp rfl (px_field rfl xfld48x1) ?_
  refine sx_guardT rfl rfl rfl ?_
  have f6 := fb2.ext c5
  refine sp rfl (px_load rfl (f6.loadA (vs := [.bool n1, v1]) (look_lit rfl) Tryz.isAgg28 Tryz.sizeOf28)) ?_
  refine sx_guardT rfl rfl rfl ?_
  have f7 := hv10.ext cb2
  have f8 := f7.ext c5
  refine sx_call rfl rfl Tryz.call95 (c_sIntOk f8 (by omega)) (fun v9 w9 p9 => ?_)
  obtain ⟨rfl, c9⟩ := p9
  have zw9 := c9.size
  refine sp rfl (px_pick rfl rfl) ?_
  refine mv rfl rfl ?_
  refine sx_tmpP (t := 11) rfl (fun h7x1 => ?_) (fun h7x1 => ?_)
  ·
   refine sx_guardT rfl rfl rfl ?_
   refine sp rfl (px_field rfl xfld48x1) ?_
   refine sx_guardT rfl rfl rfl ?_
   refine sp rfl (px_field rfl xfld28x1) ?_
   refine sx_guardT rfl rfl rfl ?_
   have f10 := f6.ext c9
   refine sp rfl (px_load rfl (f10.load1 rfl Tryz.isAgg26)) ?_
   refine sx_guardT rfl rfl rfl ?_
   have f11 := f8.ext c9
   refine sp rfl (px_len rfl Tryz.underlying26 f11) ?_
   refine sx_guardT rfl rfl rfl ?_
   refine sp rfl (px_le rfl rfl) ?_
   refine sp rfl (px_pick rfl rfl) ?_
   refine av rfl rfl (wl_nil (q_n (k4 _ _ ?_)))
   refine sx_sub (Sub.c 2 rfl .nil) ?_
   refine sx_retc ?_
   refine sx_ret1 Tryz.results57 rfl ?_
   exact ⟨(by first | exact bTrue (by grind [MOk]) | exact bFalse (by grind [MOk]) | exact bIff (by grind [MOk])), ((cb2.t c5).t c9)⟩
  refine sx_guardF rfl rfl rfl rfl rfl rfl ?_
  refine sx_guardF rfl rfl rfl rfl rfl rfl ?_
  refine sx_guardF rfl rfl rfl rfl rfl rfl ?_
  refine sx_guardF rfl rfl rfl rfl rfl rfl ?_
  refine sx_guardF rfl rfl rfl rfl rfl rfl ?_
  refine sp rfl (px_pick rfl rfl) ?_
  refine av rfl rfl (wl_nil (q_n (k4 _ _ ?_)))
  refine sx_sub (Sub.c 2 rfl .nil) ?_
  refine sx_retc ?_
  refine sx_ret1 Tryz.results57 rfl ?_
  exact ⟨(by first | exact bTrue (by grind [MOk]) | exact bFalse (by grind [MOk]) | exact bIff (by grind [MOk])), ((cb2.t c5).t c9)⟩
 refine sx_guardF rfl rfl rfl rfl rfl rfl ?_
 refine sx_guardF rfl rfl rfl rfl rfl rfl ?_
 refine sx_guardF rfl rfl rfl rfl rfl rfl ?_
 refine sp rfl (px_pick rfl rfl) ?_
 refine mv rfl rfl ?_
 refine sx_guardF rfl rfl rfl rfl rfl rfl ?_
 refine sx_guardF rfl rfl rfl rfl rfl rfl ?_
 refine sx_guardF rfl rfl rfl rfl rfl rfl ?_
 refine sx_guardF rfl rfl rfl rfl rfl rfl ?_
 refine sx_guardF rfl rfl rfl rfl rfl rfl ?_
 refine sp rfl (px_pick rfl rfl) ?_
 refine av rfl rfl (wl_nil (q_n (k4 _ _ ?_)))
 refine sx_sub (Sub.c 2 rfl .nil) ?_
 refine sx_retc ?_
 refine sx_ret1 Tryz.results57 rfl ?_
 exact ⟨(by first | exact bTrue (by grind [MOk]) | exact bFalse (by grind [MOk]) | exact bIff (by grind [MOk])), (cb2.t c5)⟩

theorem c_sMoneyRat {w : World} {c1 : ByteArray} {n1 : Bool} {v1 : Value} {lv1 uv1 : Nat} {z1 : List Int} (hv1 : Sl w lv1 uv1 v1 (z1)) (h63 : z1.length ≤ 4611686018427387904) :
  Ret Tryz.prog 58 [.agg #[.string c1, .bool n1, v1]] w fun v w' => ∃ s t ls us lt ut, v = .agg #[.bool ((mRat c1 n1 z1).1), s, t] ∧ OwnI w' (ls) (us) s intT ((mRat c1 n1 z1).2.1) ∧ OwnI w' (lt) (ut) t intT ((mRat c1 n1 z1).2.2.1) ∧ (w.heap.size ≤ ls ∧ us ≤ w'.heap.size ∧ w.heap.size ≤ lt ∧ ut ≤ w'.heap.size ∧ (us ≤ lt ∨ ut ≤ ls)) ∧ ((mRat c1 n1 z1).2.1.length ≤ 18 ∧ (mRat c1 n1 z1).2.2.1.length ≤ 18) ∧ Chg 0 0 w w' := by
 have hv10 := hv1.fit
 refine sx_enter Tryz.func58 rfl Tryz.ntmps58 (nbl rfl) ?_
 refine sx_seq fun K1 k1 => sx_region ?_
 refine sx_box [.string c1, .bool n1, v1] rfl rfl rfl (fun b2 w3 eb2 sb2 fb2 cb2 => ?_)
 have zw3 := cb2.size
 refine sx_alloc [.bool false, (.slice none 0 0), (.slice none 0 0)] rfl Tryz.zeroValue30 rfl (fun b4 w5 eb4 sb4 fb4 cb4 => ?_)
 have zw5 := cb4.size
 refine wl_nil (q_n (k1 _ _ ?_))
 refine sx_seq fun K6 k6 => ?_
 refine sx_seq fun K7 k7 => sx_region ?_
 have f8 := fb2.ext cb4
 refine sp rfl (px_load rfl (f8.loadA (vs := [.string c1, .bool n1, v1]) (look_lit rfl) Tryz.isAgg48 Tryz.sizeOf48)) ?_
 have f9 := hv10.ext cb2
 have f10 := f9.ext cb4
 refine sx_call rfl rfl Tryz.call57 (c_sMoneyOk f10 (by omega)) (fun v11 w11 p11 => ?_)
 obtain ⟨rfl, c11⟩ := p11
 have zw11 := c11.size
 refine sp rfl (px_notP rfl) ?_
 refine wl_nil (q_n (k7 _ _ ?_))
 refine sx_condP rfl (fun h97 => ?_) (fun h97 => ?_)
 ·
  refine sx_seq fun K12 k12 => sx_region ?_
  refine sp rfl (px_build rfl (xbld30x  _)) ?_
  have f14 := fb4.ext c11
  refine sx_store (vs := [.bool false, (.slice none 0 0), (.slice none 0 0)]) rfl rfl f14 rfl Tryz.sizeOf30 (nbl rfl) (o3 rfl rfl rfl) (fun w13 sw13 fw13 cw13 => ?_)
  have zw13 := cw13.size
  have gw13 : Blk w13 b4 [.bool false, (.slice none 0 0), (.slice none 0 0)] 30 := fw13
  refine wl_nil (q_n (k12 _ _ ?_))
  refine sx_retc ?_
  refine q_r (sx_ret1 Tryz.results58 ⟨_, rfl, gw13.loadA (vs := [.bool false, (.slice none 0 0), (.slice none 0 0)]) (look_lit rfl) Tryz.isAgg30 Tryz.sizeOf30⟩ ?_)
  rw [mRat_no h97]
  have q15 := Chg.step (l := 0) (h := 0) (Chg.zero (l := 0) (h := 0) ((cb2.t cb4).t c11)) cw13 (by omega)
  exact ⟨_, _, w.heap.size, w.heap.size, w.heap.size, w.heap.size, rfl, Own.nil _ _ _ _ _, Own.nil _ _ _ _ _, by omega, ⟨by simp [noR], by simp [noR]⟩, q15⟩
 have hM := Decidable.not_not.1 h97
 have hM4 := hM.2.2
 refine sx_skip ?_
 refine q_n (k6 _ _ ?_)
 refine sx_seq fun K16 k16 => sx_region ?_
 refine sp rfl (px_field rfl xfld48x1) ?_
 have f17 := f8.ext c11
 refine sp rfl (px_load rfl (f17.loadA (vs := [.bool n1, v1]) (look_lit rfl) Tryz.isAgg28 Tryz.sizeOf28)) ?_
 have f18 := f10.ext c11
 refine sx_call rfl rfl Tryz.call29 (c_sRatInt f18 (by omega)) (fun v19 w19 p19 => ?_)
 obtain ⟨s19, t19, ls19, us19, lt19, ut19, rfl, os_19, ot_19, hd19, hl19, c19⟩ := p19
 have zw19 := c19.size
 refine mv rfl rfl (sp rfl (px_ex2 rfl rfl) ?_)
 refine sp rfl (px_ex2 rfl rfl) ?_
 refine sx_alloc [.bool false, (.slice none 0 0), (.slice none 0 0)] rfl Tryz.zeroValue30 rfl (fun b20 w21 eb20 sb20 fb20 cb20 => ?_)
 have zw21 := cb20.size
 have f23 := ot_19.ext cb20
 have f24 := os_19.ext cb20
 refine sx_store (vs := [.bool ((rInt n1 z1).1), s19, t19]) rfl rfl fb20 rfl Tryz.sizeOf30 (nbl rfl) (one_cons rfl (one_cons f24.one (one_cons f23.one one_nil))) (fun w22 sw22 fw22 cw22 => ?_)
 have zw22 := cw22.size
 have gw22 : Blk w22 b20 [.bool ((rInt n1 z1).1), s19, t19] 30 := fw22
 refine av rfl rfl (wl_nil (q_n (k16 _ _ ?_)))
 refine sx_seq fun K25 k25 => sx_region ?_
 refine sp rfl (px_load rfl (gw22.loadA (vs := [.bool ((rInt n1 z1).1), s19, t19]) (look_lit rfl) Tryz.isAgg30 Tryz.sizeOf30)) ?_
 have f29 := ((fb4.ext c11).ext c19).ext cb20
 have f30 := f29.chg cw22 (by omega)
 have f31 := f23.chg cw22 (by omega)
 have f32 := f24.chg cw22 (by omega)
 refine sx_store (vs := [.bool ((rInt n1 z1).1), s19, t19]) rfl rfl f30 rfl Tryz.sizeOf30 (nbl rfl) (one_cons rfl (one_cons f32.one (one_cons f31.one one_nil))) (fun w26 sw26 fw26 cw26 => ?_)
 have zw26 := cw26.size
 have gw26 : Blk w26 b4 [.bool ((rInt n1 z1).1), s19, t19] 30 := fw26
 refine wl_nil (q_n (k25 _ _ ?_))
 refine sx_sub (Sub.c 2 rfl .nil) ?_
 refine sx_retc ?_
 refine sx_ret1 Tryz.results58 ⟨_, rfl, gw26.loadA (vs := [.bool ((rInt n1 z1).1), s19, t19]) (look_lit rfl) Tryz.isAgg30 Tryz.sizeOf30⟩ ?_
 have hrl := mRat_len (c := c1) (n := n1) (z := z1)
 rw [← mRat_int hM] at hrl ⊢
 have q33 := Chg.step (l := 0) (h := 0) (Chg.zero (l := 0) (h := 0) ((((cb2.t cb4).t c11).t c19).t cb20)) cw22 (by omega)
 have q34 := Chg.step (l := 0) (h := 0) q33 cw26 (by omega)
 have f35 := f32.chg cw26 (by omega)
 have f36 := f31.chg cw26 (by omega)
 exact ⟨_, _, _, _, _, _, rfl, f35, f36, by omega, hrl, q34⟩

theorem c_l06Mode {w : World} {m : Int} :
  Ret Tryz.prog 146 [.int .i64 m] w fun v w' => v = .bool (decide (0 ≤ m ∧ m ≤ 6)) ∧ Chg 0 0 w w' := by
 refine sx_enter Tryz.func146 rfl Tryz.ntmps146 (nbl rfl) ?_
 refine sx_seq fun K1 k1 => sx_region ?_
 refine av rfl rfl (wl_nil (q_n (k1 _ _ ?_)))
 refine sx_seq fun K2 k2 => sx_region ?_
 refine mv rfl rfl (sx_call rfl rfl Tryz.call139 (c_l01In) (fun v3 w3 p3 => ?_))
 obtain ⟨rfl, c3⟩ := p3
 have zw3 := c3.size
 refine av rfl rfl (wl_nil (q_n (k2 _ _ ?_)))
 refine sx_retc ?_
 refine sx_ret1 Tryz.results146 rfl ?_
 exact ⟨(by first | exact bTrue (by grind) | exact bFalse (by grind) | exact bIff (by grind)), c3⟩

end Go.Proofs.YtcghgfmickgnkaaGreatDoor
