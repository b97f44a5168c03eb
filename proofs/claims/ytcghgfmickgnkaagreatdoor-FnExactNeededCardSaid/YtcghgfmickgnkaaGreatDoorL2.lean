/- Contracts of functions of the program: what each call returns, and that it changes nothing that was. Conditions: as each says. -/
import Derived.Test.YtcghgfmickgnkaaGreatDoorTy
import Derived.Test.YtcghgfmickgnkaaGreatDoorNatP
import Derived.Test.YtcghgfmickgnkaaGreatDoorSxD
import Derived.Test.YtcghgfmickgnkaaGreatDoorPair
import Derived.Test.YtcghgfmickgnkaaGreatDoorSxP
import Derived.Test.YtcghgfmickgnkaaGreatDoorRm
import Derived.Test.YtcghgfmickgnkaaGreatDoorL0
import Derived.Test.YtcghgfmickgnkaaGreatDoorL1
set_option linter.unusedVariables false
set_option linter.unusedSimpArgs false
namespace Go.Proofs.YtcghgfmickgnkaaGreatDoor
open Go Go.RowKit
set_option maxRecDepth 100000
theorem c_l02Add {w : World} {va : Value} {lva uva : Nat} {m : Nat} {vb : Value} {lvb uvb : Nat} {n : Nat} (hva : Sl w lva uva va (dg m)) (hvb : Sl w lvb uvb vb (dg n)) (hbm : (dg m).length ≤ 1000) (hbn : (dg n).length ≤ 1000) :
  Ret Tryz.prog 152 [va, vb] w fun v w' => ∃ s, v = s ∧ Sl w' (w.heap.size) (w'.heap.size) s (dg (m + n)) ∧ Chg 0 0 w w' := by
 have hva0 := hva.fit
 have hvb0 := hvb.fit
 refine sx_enter Tryz.func152 rfl Tryz.ntmps152 (nbl rfl) ?_
 refine sx_seq fun K1 k1 => sx_region ?_
 refine av rfl rfl (wl_nil (q_n (k1 _ _ ?_)))
 refine sx_seq fun K2 k2 => sx_region ?_
 refine sx_lit0 rfl xelt26 (fun s3 ws3 ss3 fs3 cs3 => ?_)
 have zws3 := cs3.size
 refine av rfl rfl (wl_nil (q_n (k2 _ _ ?_)))
 refine sx_seq fun K4 k4 => sx_region ?_
 refine av rfl rfl (wl_nil (q_n (k4 _ _ ?_)))
 refine sx_seq fun K5 k5 => ?_
 refine sx_seq fun K6 k6 => sx_region ?_
 refine av rfl rfl (wl_nil (q_n (k6 _ _ ?_)))
 refine sx_block ?_
 refine sx_loop (fun mm aa w' => ∃ (k : Nat) (s : Value) (os : List Int) (c : Nat), Agr 55 [(0, va), (1, vb), (5, s), (6, .int .i64 ((c : Nat) : Int)), (7, .int .i64 ↑k)] aa ∧ Chg w.heap.size ws3.heap.size ws3 w' ∧ Own w' w.heap.size w'.heap.size s intT os.length 1 (os.map (Value.int .i64)) ∧ (mm = max (dg m).length (dg n).length + 1 - k) ∧ (os.length = k) ∧ (Lm os) ∧ (c ≤ 1) ∧ (vl os + Bs ^ k * c = vl ((dg m).take k) + vl ((dg n).take k)) ∧ (k ≤ max (dg m).length (dg n).length ∨ (c = 0 ∧ k = max (dg m).length (dg n).length + 1 ∧ Bs ^ (k - 1) ≤ vl os))) (_) (fun a ha => ⟨0, s3, [], 0, ha.sub (Sub.c 0 rfl (.c 1 rfl (.c 5 rfl (.c 6 (look_int (t := 6) rfl (by first | omega | simp)) (.c 7 (look_int (t := 7) rfl (by first | omega | simp)) .nil))))), Chg.refl _ _ _, (fs3.mono (by omega) (by omega)), rfl, rfl, Lm.nil, by omega, by simp [vl], .inl (Nat.zero_le _)⟩) ?_
 rintro mm aa wl7 ⟨k, s, os, c, hAwl7, cwl7, hs_s, hm, hos, hlm, hc, hv, hlast⟩
 refine (show cw Tryz.prog 55 _ _ _ wl7 from ?_) aa hAwl7
 clear hAwl7
 have zwl7 := cwl7.size
 have am := (Lm_dg m).getD k
 have bn := (Lm_dg n).getD k
 refine sx_seq fun K8 k8 => ?_
 refine sx_seq fun K9 k9 => sx_region ?_
 refine mv rfl rfl (mv rfl rfl ?_)
 have f10 := hva0.ext cs3
 have f11 := f10.chg cwl7 (by omega)
 refine sp rfl (px_len rfl Tryz.underlying26 f11) ?_
 refine sp rfl (px_lt rfl rfl) ?_
 refine mv rfl rfl ?_
 refine sx_tmpP (t := 14) rfl (fun h82 => ?_) (fun h82 => ?_)
 ·
  refine sx_guardF rfl rfl rfl rfl rfl rfl ?_
  refine sx_guardF rfl rfl rfl rfl rfl rfl ?_
  refine sx_guardF rfl rfl rfl rfl rfl rfl ?_
  refine sx_guardF rfl rfl rfl rfl rfl rfl ?_
  refine sp rfl (px_pick rfl rfl) ?_
  refine mv rfl rfl ?_
  refine sx_guardF rfl rfl rfl rfl rfl rfl ?_
  refine sx_guardF rfl rfl rfl rfl rfl rfl ?_
  refine sp rfl (px_pick rfl rfl) ?_
  refine wl_nil (q_n (k9 _ _ ?_))
  refine sx_sub (Sub.c 0 rfl (.c 1 rfl (.c 5 rfl (.c 6 rfl (.c 7 rfl (.c 23 rfl .nil)))))) ?_
  refine sx_condT rfl ?_
  refine sx_skip ?_
  refine q_n (k8 _ _ ?_)
  refine sx_seq fun K12 k12 => ?_
  refine sx_block ?_
  refine sx_seq fun K13 k13 => sx_region ?_
  refine mv rfl rfl (av rfl rfl (wl_nil (q_n (k13 _ _ ?_))))
  refine sx_seq fun K14 k14 => ?_
  refine sx_seq fun K15 k15 => sx_region ?_
  refine mv rfl rfl (mv rfl rfl (sp rfl (px_len rfl Tryz.underlying26 f11) ?_))
  refine sp rfl (px_lt rfl rfl) ?_
  refine wl_nil (q_n (k15 _ _ ?_))
  refine sx_condP rfl (fun h84 => ?_) (fun h84 => ?_)
  ·
   refine sx_region ?_
   refine mv rfl rfl (mv rfl rfl (mv rfl rfl (sp rfl (px_index1 (j := k) rfl rfl (by omega) Tryz.underlying26 Tryz.sizeOf3 f11 (by omega)) ?_)))
   refine sp rfl (px_load rfl (f11.load1 (at_int (by omega)) Tryz.isAgg3)) ?_
   refine sp rfl (px_add rfl rfl (by omega)) ?_
   refine av rfl rfl (wl_nil (q_n (k14 _ _ ?_)))
   refine sx_sub (Sub.c 0 rfl (.c 1 rfl (.c 5 rfl (.c 6 rfl (.c 7 rfl (.c 8 rfl .nil)))))) ?_
   refine sx_seq fun K16 k16 => ?_
   refine sx_seq fun K17 k17 => sx_region ?_
   refine mv rfl rfl (mv rfl rfl ?_)
   have f18 := hvb0.ext cs3
   have f19 := f18.chg cwl7 (by omega)
   refine sp rfl (px_len rfl Tryz.underlying26 f19) ?_
   refine sp rfl (px_lt rfl rfl) ?_
   refine wl_nil (q_n (k17 _ _ ?_))
   refine sx_condP rfl (fun h87 => ?_) (fun h87 => ?_)
   ·
    refine sx_region ?_
    refine mv rfl rfl (mv rfl rfl (mv rfl rfl (sp rfl (px_index1 (j := k) rfl rfl (by omega) Tryz.underlying26 Tryz.sizeOf3 f19 (by omega)) ?_)))
    refine sp rfl (px_load rfl (f19.load1 (at_int (by omega)) Tryz.isAgg3)) ?_
    refine sp rfl (px_add rfl rfl (by omega)) ?_
    refine av rfl rfl (wl_nil (q_n (k16 _ _ ?_)))
    refine sx_sub (Sub.c 0 rfl (.c 1 rfl (.c 5 rfl (.c 6 rfl (.c 7 rfl (.c 8 rfl .nil)))))) ?_
    refine sx_seq fun K20 k20 => sx_region ?_
    refine mv rfl rfl (mv rfl rfl (sp rfl (px_rem rfl rfl (by omega) (by omega)) ?_))
    refine sx_lit1 rfl xelt26 rfl rfl (fun s21 ws21 ss21 fs21 cs21 => ?_)
    have ns21 := Own.norm (f := (Value.int .i64)) (zs := [((((c : Nat) : Int) + ((dg m).getD k 0)) + ((dg n).getD k 0)) % 1000000000]) fs21
    have zws21 := cs21.size
    have f23 := hs_s.ext cs21
    refine sx_append rfl xelt26 rfl rfl f23 ns21.sv one_int (by omega) (by simp only [List.length_cons, List.length_nil]; omega) (by unfold maxLen; simp only [List.length_cons, List.length_nil]; omega) (fun a22 w22 fw22 cw22 => ?_)
    have nw22 := Own.app (f := (Value.int .i64)) (a := os) (b := [((((c : Nat) : Int) + ((dg m).getD k 0)) + ((dg n).getD k 0)) % 1000000000]) fw22
    have zw22 := cw22.size
    refine av rfl rfl (wl_nil (q_n (k20 _ _ ?_)))
    refine sx_region ?_
    refine mv rfl rfl (sp rfl (px_quo rfl rfl (by omega) (by omega) (by omega)) ?_)
    refine av rfl rfl (wl_nil ?_)
    refine q_bn (q_n (k12 _ _ ?_))
    refine sx_region ?_
    refine mv rfl rfl (sp rfl (px_add rfl rfl (by omega)) ?_)
    refine av rfl rfl (wl_nil ?_)
    have q24 := Chg.step (l := w.heap.size) (h := ws3.heap.size) cwl7 cs21 (by omega)
    have q25 := Chg.step (l := w.heap.size) (h := ws3.heap.size) q24 cw22 (by omega)
    have hs : (((((c : Nat) : Int) + ((dg m).getD k 0)) + ((dg n).getD k 0)) : Int) = ((c : Nat) : Int) + (((dg m).getD k 0).toNat : Nat) + (((dg n).getD k 0).toNat : Nat) := by omega
    have hv2 : vl (os ++ [(((((c : Nat) : Int) + ((dg m).getD k 0)) + ((dg n).getD k 0))) % 1000000000]) + Bs ^ (k + 1) * ((((((c : Nat) : Int) + ((dg m).getD k 0)) + ((dg n).getD k 0))) / 1000000000 : Int).toNat = vl ((dg m).take (k + 1)) + vl ((dg n).take (k + 1)) := by
     rw [vl_concat, hos, vl_take_succ', vl_take_succ', Nat.pow_succ]
     exact add_step hs hv
    have hX := mod_bd (s := ((((c : Nat) : Int) + ((dg m).getD k 0)) + ((dg n).getD k 0))) (by omega)
    have hl3 : k + 1 ≤ max (dg m).length (dg n).length ∨ (((((((c : Nat) : Int) + ((dg m).getD k 0)) + ((dg n).getD k 0))) / 1000000000 : Int).toNat = 0 ∧ k + 1 = max (dg m).length (dg n).length + 1 ∧ Bs ^ (k + 1 - 1) ≤ vl (os ++ [(((((c : Nat) : Int) + ((dg m).getD k 0)) + ((dg n).getD k 0))) % 1000000000])) := by
     by_cases hkM : k + 1 ≤ max (dg m).length (dg n).length
     · exact .inl hkM
     · first
      | (exfalso; omega)
      | (refine .inr ⟨by omega, by omega, ?_⟩; rw [vl_concat, hos, Nat.add_sub_cancel, show (((((c : Nat) : Int) + ((dg m).getD k 0)) + ((dg n).getD k 0))) % 1000000000 = 1 by omega]; exact Nat.le_trans (by simp) (Nat.le_add_left _ _))
    exact fun a ha => ⟨_, by omega, (k + 1), a22, (os ++ ([((((c : Nat) : Int) + ((dg m).getD k 0)) + ((dg n).getD k 0)) % 1000000000])), ((((((c : Nat) : Int) + ((dg m).getD k 0)) + ((dg n).getD k 0))) / 1000000000 : Int).toNat, ha.sub (Sub.c 0 rfl (.c 1 rfl (.c 5 rfl (.c 6 (look_int (t := 6) rfl (by first | omega | simp)) (.c 7 (look_int (t := 7) rfl (by first | omega | simp)) .nil))))), q25, (nw22.mono (by omega) (by omega)), rfl, by simp [hos], hlm.append (Lm.single hX.1 hX.2), by omega, hv2, hl3⟩
   have gn := getD_ge (zs := dg n) (k := k) (by omega)
   refine sx_skip ?_
   refine q_n (k16 _ _ ?_)
   refine sx_seq fun K26 k26 => sx_region ?_
   refine mv rfl rfl (mv rfl rfl (sp rfl (px_rem rfl rfl (by omega) (by omega)) ?_))
   refine sx_lit1 rfl xelt26 rfl rfl (fun s27 ws27 ss27 fs27 cs27 => ?_)
   have ns27 := Own.norm (f := (Value.int .i64)) (zs := [(((c : Nat) : Int) + ((dg m).getD k 0)) % 1000000000]) fs27
   have zws27 := cs27.size
   have f29 := hs_s.ext cs27
   refine sx_append rfl xelt26 rfl rfl f29 ns27.sv one_int (by omega) (by simp only [List.length_cons, List.length_nil]; omega) (by unfold maxLen; simp only [List.length_cons, List.length_nil]; omega) (fun a28 w28 fw28 cw28 => ?_)
   have nw28 := Own.app (f := (Value.int .i64)) (a := os) (b := [(((c : Nat) : Int) + ((dg m).getD k 0)) % 1000000000]) fw28
   have zw28 := cw28.size
   refine av rfl rfl (wl_nil (q_n (k26 _ _ ?_)))
   refine sx_sub (Sub.c 0 rfl (.c 1 rfl (.c 5 rfl (.c 6 rfl (.c 7 rfl (.c 8 rfl .nil)))))) ?_
   refine sx_region ?_
   refine mv rfl rfl (sp rfl (px_quo rfl rfl (by omega) (by omega) (by omega)) ?_)
   refine av rfl rfl (wl_nil ?_)
   refine q_bn (q_n (k12 _ _ ?_))
   refine sx_region ?_
   refine mv rfl rfl (sp rfl (px_add rfl rfl (by omega)) ?_)
   refine av rfl rfl (wl_nil ?_)
   have q30 := Chg.step (l := w.heap.size) (h := ws3.heap.size) cwl7 cs27 (by omega)
   have q31 := Chg.step (l := w.heap.size) (h := ws3.heap.size) q30 cw28 (by omega)
   have hs : ((((c : Nat) : Int) + ((dg m).getD k 0)) : Int) = ((c : Nat) : Int) + (((dg m).getD k 0).toNat : Nat) + (((dg n).getD k 0).toNat : Nat) := by omega
   have hv2 : vl (os ++ [((((c : Nat) : Int) + ((dg m).getD k 0))) % 1000000000]) + Bs ^ (k + 1) * (((((c : Nat) : Int) + ((dg m).getD k 0))) / 1000000000 : Int).toNat = vl ((dg m).take (k + 1)) + vl ((dg n).take (k + 1)) := by
    rw [vl_concat, hos, vl_take_succ', vl_take_succ', Nat.pow_succ]
    exact add_step hs hv
   have hX := mod_bd (s := (((c : Nat) : Int) + ((dg m).getD k 0))) (by omega)
   have hl3 : k + 1 ≤ max (dg m).length (dg n).length ∨ ((((((c : Nat) : Int) + ((dg m).getD k 0))) / 1000000000 : Int).toNat = 0 ∧ k + 1 = max (dg m).length (dg n).length + 1 ∧ Bs ^ (k + 1 - 1) ≤ vl (os ++ [((((c : Nat) : Int) + ((dg m).getD k 0))) % 1000000000])) := by
    by_cases hkM : k + 1 ≤ max (dg m).length (dg n).length
    · exact .inl hkM
    · first
     | (exfalso; omega)
     | (refine .inr ⟨by omega, by omega, ?_⟩; rw [vl_concat, hos, Nat.add_sub_cancel, show ((((c : Nat) : Int) + ((dg m).getD k 0))) % 1000000000 = 1 by omega]; exact Nat.le_trans (by simp) (Nat.le_add_left _ _))
   exact fun a ha => ⟨_, by omega, (k + 1), a28, (os ++ ([(((c : Nat) : Int) + ((dg m).getD k 0)) % 1000000000])), (((((c : Nat) : Int) + ((dg m).getD k 0))) / 1000000000 : Int).toNat, ha.sub (Sub.c 0 rfl (.c 1 rfl (.c 5 rfl (.c 6 (look_int (t := 6) rfl (by first | omega | simp)) (.c 7 (look_int (t := 7) rfl (by first | omega | simp)) .nil))))), q31, (nw28.mono (by omega) (by omega)), rfl, by simp [hos], hlm.append (Lm.single hX.1 hX.2), by omega, hv2, hl3⟩
  have gm := getD_ge (zs := dg m) (k := k) (by omega)
  refine sx_skip ?_
  refine q_n (k14 _ _ ?_)
  refine sx_seq fun K32 k32 => ?_
  refine sx_seq fun K33 k33 => sx_region ?_
  refine mv rfl rfl (mv rfl rfl ?_)
  have f34 := hvb0.ext cs3
  have f35 := f34.chg cwl7 (by omega)
  refine sp rfl (px_len rfl Tryz.underlying26 f35) ?_
  refine sp rfl (px_lt rfl rfl) ?_
  refine wl_nil (q_n (k33 _ _ ?_))
  refine sx_sub (Sub.c 0 rfl (.c 1 rfl (.c 5 rfl (.c 6 rfl (.c 7 rfl (.c 8 rfl (.c 40 rfl .nil))))))) ?_
  refine sx_condP rfl (fun h87 => ?_) (fun h87 => ?_)
  ·
   refine sx_region ?_
   refine mv rfl rfl (mv rfl rfl (mv rfl rfl (sp rfl (px_index1 (j := k) rfl rfl (by omega) Tryz.underlying26 Tryz.sizeOf3 f35 (by omega)) ?_)))
   refine sp rfl (px_load rfl (f35.load1 (at_int (by omega)) Tryz.isAgg3)) ?_
   refine sp rfl (px_add rfl rfl (by omega)) ?_
   refine av rfl rfl (wl_nil (q_n (k32 _ _ ?_)))
   refine sx_seq fun K36 k36 => sx_region ?_
   refine mv rfl rfl (mv rfl rfl (sp rfl (px_rem rfl rfl (by omega) (by omega)) ?_))
   refine sx_lit1 rfl xelt26 rfl rfl (fun s37 ws37 ss37 fs37 cs37 => ?_)
   have ns37 := Own.norm (f := (Value.int .i64)) (zs := [(((c : Nat) : Int) + ((dg n).getD k 0)) % 1000000000]) fs37
   have zws37 := cs37.size
   have f39 := hs_s.ext cs37
   refine sx_append rfl xelt26 rfl rfl f39 ns37.sv one_int (by omega) (by simp only [List.length_cons, List.length_nil]; omega) (by unfold maxLen; simp only [List.length_cons, List.length_nil]; omega) (fun a38 w38 fw38 cw38 => ?_)
   have nw38 := Own.app (f := (Value.int .i64)) (a := os) (b := [(((c : Nat) : Int) + ((dg n).getD k 0)) % 1000000000]) fw38
   have zw38 := cw38.size
   refine av rfl rfl (wl_nil (q_n (k36 _ _ ?_)))
   refine sx_sub (Sub.c 0 rfl (.c 1 rfl (.c 5 rfl (.c 6 rfl (.c 7 rfl (.c 8 rfl .nil)))))) ?_
   refine sx_region ?_
   refine mv rfl rfl (sp rfl (px_quo rfl rfl (by omega) (by omega) (by omega)) ?_)
   refine av rfl rfl (wl_nil ?_)
   refine q_bn (q_n (k12 _ _ ?_))
   refine sx_region ?_
   refine mv rfl rfl (sp rfl (px_add rfl rfl (by omega)) ?_)
   refine av rfl rfl (wl_nil ?_)
   have q40 := Chg.step (l := w.heap.size) (h := ws3.heap.size) cwl7 cs37 (by omega)
   have q41 := Chg.step (l := w.heap.size) (h := ws3.heap.size) q40 cw38 (by omega)
   have hs : ((((c : Nat) : Int) + ((dg n).getD k 0)) : Int) = ((c : Nat) : Int) + (((dg m).getD k 0).toNat : Nat) + (((dg n).getD k 0).toNat : Nat) := by omega
   have hv2 : vl (os ++ [((((c : Nat) : Int) + ((dg n).getD k 0))) % 1000000000]) + Bs ^ (k + 1) * (((((c : Nat) : Int) + ((dg n).getD k 0))) / 1000000000 : Int).toNat = vl ((dg m).take (k + 1)) + vl ((dg n).take (k + 1)) := by
    rw [vl_concat, hos, vl_take_succ', vl_take_succ', Nat.pow_succ]
    exact add_step hs hv
   have hX := mod_bd (s := (((c : Nat) : Int) + ((dg n).getD k 0))) (by omega)
   have hl3 : k + 1 ≤ max (dg m).length (dg n).length ∨ ((((((c : Nat) : Int) + ((dg n).getD k 0))) / 1000000000 : Int).toNat = 0 ∧ k + 1 = max (dg m).length (dg n).length + 1 ∧ Bs ^ (k + 1 - 1) ≤ vl (os ++ [((((c : Nat) : Int) + ((dg n).getD k 0))) % 1000000000])) := by
    by_cases hkM : k + 1 ≤ max (dg m).length (dg n).length
    · exact .inl hkM
    · first
     | (exfalso; omega)
     | (refine .inr ⟨by omega, by omega, ?_⟩; rw [vl_concat, hos, Nat.add_sub_cancel, show ((((c : Nat) : Int) + ((dg n).getD k 0))) % 1000000000 = 1 by omega]; exact Nat.le_trans (by simp) (Nat.le_add_left _ _))
   exact fun a ha => ⟨_, by omega, (k + 1), a38, (os ++ ([(((c : Nat) : Int) + ((dg n).getD k 0)) % 1000000000])), (((((c : Nat) : Int) + ((dg n).getD k 0))) / 1000000000 : Int).toNat, ha.sub (Sub.c 0 rfl (.c 1 rfl (.c 5 rfl (.c 6 (look_int (t := 6) rfl (by first | omega | simp)) (.c 7 (look_int (t := 7) rfl (by first | omega | simp)) .nil))))), q41, (nw38.mono (by omega) (by omega)), rfl, by simp [hos], hlm.append (Lm.single hX.1 hX.2), by omega, hv2, hl3⟩
  have gn := getD_ge (zs := dg n) (k := k) (by omega)
  refine sx_skip ?_
  refine q_n (k32 _ _ ?_)
  refine sx_seq fun K42 k42 => sx_region ?_
  refine mv rfl rfl (mv rfl rfl (sp rfl (px_rem rfl rfl (by omega) (by omega)) ?_))
  refine sx_lit1 rfl xelt26 rfl rfl (fun s43 ws43 ss43 fs43 cs43 => ?_)
  have ns43 := Own.norm (f := (Value.int .i64)) (zs := [((c : Nat) : Int) % 1000000000]) fs43
  have zws43 := cs43.size
  have f45 := hs_s.ext cs43
  refine sx_append rfl xelt26 rfl rfl f45 ns43.sv one_int (by omega) (by simp only [List.length_cons, List.length_nil]; omega) (by unfold maxLen; simp only [List.length_cons, List.length_nil]; omega) (fun a44 w44 fw44 cw44 => ?_)
  have nw44 := Own.app (f := (Value.int .i64)) (a := os) (b := [((c : Nat) : Int) % 1000000000]) fw44
  have zw44 := cw44.size
  refine av rfl rfl (wl_nil (q_n (k42 _ _ ?_)))
  refine sx_region ?_
  refine mv rfl rfl (sp rfl (px_quo rfl rfl (by omega) (by omega) (by omega)) ?_)
  refine av rfl rfl (wl_nil ?_)
  refine q_bn (q_n (k12 _ _ ?_))
  refine sx_region ?_
  refine mv rfl rfl (sp rfl (px_add rfl rfl (by omega)) ?_)
  refine av rfl rfl (wl_nil ?_)
  have q46 := Chg.step (l := w.heap.size) (h := ws3.heap.size) cwl7 cs43 (by omega)
  have q47 := Chg.step (l := w.heap.size) (h := ws3.heap.size) q46 cw44 (by omega)
  have hs : (((c : Nat) : Int) : Int) = ((c : Nat) : Int) + (((dg m).getD k 0).toNat : Nat) + (((dg n).getD k 0).toNat : Nat) := by omega
  have hv2 : vl (os ++ [(((c : Nat) : Int)) % 1000000000]) + Bs ^ (k + 1) * ((((c : Nat) : Int)) / 1000000000 : Int).toNat = vl ((dg m).take (k + 1)) + vl ((dg n).take (k + 1)) := by
   rw [vl_concat, hos, vl_take_succ', vl_take_succ', Nat.pow_succ]
   exact add_step hs hv
  have hX := mod_bd (s := ((c : Nat) : Int)) (by omega)
  have hl3 : k + 1 ≤ max (dg m).length (dg n).length ∨ (((((c : Nat) : Int)) / 1000000000 : Int).toNat = 0 ∧ k + 1 = max (dg m).length (dg n).length + 1 ∧ Bs ^ (k + 1 - 1) ≤ vl (os ++ [(((c : Nat) : Int)) % 1000000000])) := by
   by_cases hkM : k + 1 ≤ max (dg m).length (dg n).length
   · exact .inl hkM
   · first
    | (exfalso; omega)
    | (refine .inr ⟨by omega, by omega, ?_⟩; rw [vl_concat, hos, Nat.add_sub_cancel, show (((c : Nat) : Int)) % 1000000000 = 1 by omega]; exact Nat.le_trans (by simp) (Nat.le_add_left _ _))
  exact fun a ha => ⟨_, by omega, (k + 1), a44, (os ++ ([((c : Nat) : Int) % 1000000000])), ((((c : Nat) : Int)) / 1000000000 : Int).toNat, ha.sub (Sub.c 0 rfl (.c 1 rfl (.c 5 rfl (.c 6 (look_int (t := 6) rfl (by first | omega | simp)) (.c 7 (look_int (t := 7) rfl (by first | omega | simp)) .nil))))), q47, (nw44.mono (by omega) (by omega)), rfl, by simp [hos], hlm.append (Lm.single hX.1 hX.2), by omega, hv2, hl3⟩
 refine sx_guardT rfl rfl rfl ?_
 refine mv rfl rfl ?_
 refine sx_guardT rfl rfl rfl ?_
 refine mv rfl rfl ?_
 refine sx_guardT rfl rfl rfl ?_
 have f48 := hvb0.ext cs3
 have f49 := f48.chg cwl7 (by omega)
 refine sp rfl (px_len rfl Tryz.underlying26 f49) ?_
 refine sx_guardT rfl rfl rfl ?_
 refine sp rfl (px_lt rfl rfl) ?_
 refine sp rfl (px_pick rfl rfl) ?_
 refine mv rfl rfl ?_
 refine sx_tmpP (t := 20) rfl (fun h82x1 => ?_) (fun h82x1 => ?_)
 ·
  refine sx_guardF rfl rfl rfl rfl rfl rfl ?_
  refine sx_guardF rfl rfl rfl rfl rfl rfl ?_
  refine sp rfl (px_pick rfl rfl) ?_
  refine wl_nil (q_n (k9 _ _ ?_))
  refine sx_sub (Sub.c 0 rfl (.c 1 rfl (.c 5 rfl (.c 6 rfl (.c 7 rfl (.c 23 rfl .nil)))))) ?_
  refine sx_condT rfl ?_
  refine sx_skip ?_
  refine q_n (k8 _ _ ?_)
  refine sx_seq fun K50 k50 => ?_
  refine sx_block ?_
  refine sx_seq fun K51 k51 => sx_region ?_
  refine mv rfl rfl (av rfl rfl (wl_nil (q_n (k51 _ _ ?_))))
  refine sx_seq fun K52 k52 => ?_
  refine sx_seq fun K53 k53 => sx_region ?_
  refine mv rfl rfl (mv rfl rfl (sp rfl (px_len rfl Tryz.underlying26 f11) ?_))
  refine sp rfl (px_lt rfl rfl) ?_
  refine wl_nil (q_n (k53 _ _ ?_))
  refine sx_condP rfl (fun h84 => ?_) (fun h84 => ?_)
  ·
   refine sx_region ?_
   refine mv rfl rfl (mv rfl rfl (mv rfl rfl (sp rfl (px_index1 (j := k) rfl rfl (by omega) Tryz.underlying26 Tryz.sizeOf3 f11 (by omega)) ?_)))
   refine sp rfl (px_load rfl (f11.load1 (at_int (by omega)) Tryz.isAgg3)) ?_
   refine sp rfl (px_add rfl rfl (by omega)) ?_
   refine av rfl rfl (wl_nil (q_n (k52 _ _ ?_)))
   refine sx_sub (Sub.c 0 rfl (.c 1 rfl (.c 5 rfl (.c 6 rfl (.c 7 rfl (.c 8 rfl .nil)))))) ?_
   refine sx_seq fun K54 k54 => ?_
   refine sx_seq fun K55 k55 => sx_region ?_
   refine mv rfl rfl (mv rfl rfl (sp rfl (px_len rfl Tryz.underlying26 f49) ?_))
   refine sp rfl (px_lt rfl rfl) ?_
   refine wl_nil (q_n (k55 _ _ ?_))
   refine sx_condP rfl (fun h87 => ?_) (fun h87 => ?_)
   ·
    refine sx_region ?_
    refine mv rfl rfl (mv rfl rfl (mv rfl rfl (sp rfl (px_index1 (j := k) rfl rfl (by omega) Tryz.underlying26 Tryz.sizeOf3 f49 (by omega)) ?_)))
    refine sp rfl (px_load rfl (f49.load1 (at_int (by omega)) Tryz.isAgg3)) ?_
    refine sp rfl (px_add rfl rfl (by omega)) ?_
    refine av rfl rfl (wl_nil (q_n (k54 _ _ ?_)))
    refine sx_sub (Sub.c 0 rfl (.c 1 rfl (.c 5 rfl (.c 6 rfl (.c 7 rfl (.c 8 rfl .nil)))))) ?_
    refine sx_seq fun K56 k56 => sx_region ?_
    refine mv rfl rfl (mv rfl rfl (sp rfl (px_rem rfl rfl (by omega) (by omega)) ?_))
    refine sx_lit1 rfl xelt26 rfl rfl (fun s57 ws57 ss57 fs57 cs57 => ?_)
    have ns57 := Own.norm (f := (Value.int .i64)) (zs := [((((c : Nat) : Int) + ((dg m).getD k 0)) + ((dg n).getD k 0)) % 1000000000]) fs57
    have zws57 := cs57.size
    have f59 := hs_s.ext cs57
    refine sx_append rfl xelt26 rfl rfl f59 ns57.sv one_int (by omega) (by simp only [List.length_cons, List.length_nil]; omega) (by unfold maxLen; simp only [List.length_cons, List.length_nil]; omega) (fun a58 w58 fw58 cw58 => ?_)
    have nw58 := Own.app (f := (Value.int .i64)) (a := os) (b := [((((c : Nat) : Int) + ((dg m).getD k 0)) + ((dg n).getD k 0)) % 1000000000]) fw58
    have zw58 := cw58.size
    refine av rfl rfl (wl_nil (q_n (k56 _ _ ?_)))
    refine sx_region ?_
    refine mv rfl rfl (sp rfl (px_quo rfl rfl (by omega) (by omega) (by omega)) ?_)
    refine av rfl rfl (wl_nil ?_)
    refine q_bn (q_n (k50 _ _ ?_))
    refine sx_region ?_
    refine mv rfl rfl (sp rfl (px_add rfl rfl (by omega)) ?_)
    refine av rfl rfl (wl_nil ?_)
    have q60 := Chg.step (l := w.heap.size) (h := ws3.heap.size) cwl7 cs57 (by omega)
    have q61 := Chg.step (l := w.heap.size) (h := ws3.heap.size) q60 cw58 (by omega)
    have hs : (((((c : Nat) : Int) + ((dg m).getD k 0)) + ((dg n).getD k 0)) : Int) = ((c : Nat) : Int) + (((dg m).getD k 0).toNat : Nat) + (((dg n).getD k 0).toNat : Nat) := by omega
    have hv2 : vl (os ++ [(((((c : Nat) : Int) + ((dg m).getD k 0)) + ((dg n).getD k 0))) % 1000000000]) + Bs ^ (k + 1) * ((((((c : Nat) : Int) + ((dg m).getD k 0)) + ((dg n).getD k 0))) / 1000000000 : Int).toNat = vl ((dg m).take (k + 1)) + vl ((dg n).take (k + 1)) := by
     rw [vl_concat, hos, vl_take_succ', vl_take_succ', Nat.pow_succ]
     exact add_step hs hv
    have hX := mod_bd (s := ((((c : Nat) : Int) + ((dg m).getD k 0)) + ((dg n).getD k 0))) (by omega)
    have hl3 : k + 1 ≤ max (dg m).length (dg n).length ∨ (((((((c : Nat) : Int) + ((dg m).getD k 0)) + ((dg n).getD k 0))) / 1000000000 : Int).toNat = 0 ∧ k + 1 = max (dg m).length (dg n).length + 1 ∧ Bs ^ (k + 1 - 1) ≤ vl (os ++ [(((((c : Nat) : Int) + ((dg m).getD k 0)) + ((dg n).getD k 0))) % 1000000000])) := by
     by_cases hkM : k + 1 ≤ max (dg m).length (dg n).length
     · exact .inl hkM
     · first
      | (exfalso; omega)
      | (refine .inr ⟨by omega, by omega, ?_⟩; rw [vl_concat, hos, Nat.add_sub_cancel, show (((((c : Nat) : Int) + ((dg m).getD k 0)) + ((dg n).getD k 0))) % 1000000000 = 1 by omega]; exact Nat.le_trans (by simp) (Nat.le_add_left _ _))
    exact fun a ha => ⟨_, by omega, (k + 1), a58, (os ++ ([((((c : Nat) : Int) + ((dg m).getD k 0)) + ((dg n).getD k 0)) % 1000000000])), ((((((c : Nat) : Int) + ((dg m).getD k 0)) + ((dg n).getD k 0))) / 1000000000 : Int).toNat, ha.sub (Sub.c 0 rfl (.c 1 rfl (.c 5 rfl (.c 6 (look_int (t := 6) rfl (by first | omega | simp)) (.c 7 (look_int (t := 7) rfl (by first | omega | simp)) .nil))))), q61, (nw58.mono (by omega) (by omega)), rfl, by simp [hos], hlm.append (Lm.single hX.1 hX.2), by omega, hv2, hl3⟩
   have gn := getD_ge (zs := dg n) (k := k) (by omega)
   refine sx_skip ?_
   refine q_n (k54 _ _ ?_)
   refine sx_seq fun K62 k62 => sx_region ?_
   refine mv rfl rfl (mv rfl rfl (sp rfl (px_rem rfl rfl (by omega) (by omega)) ?_))
   refine sx_lit1 rfl xelt26 rfl rfl (fun s63 ws63 ss63 fs63 cs63 => ?_)
   have ns63 := Own.norm (f := (Value.int .i64)) (zs := [(((c : Nat) : Int) + ((dg m).getD k 0)) % 1000000000]) fs63
   have zws63 := cs63.size
   have f65 := hs_s.ext cs63
   refine sx_append rfl xelt26 rfl rfl f65 ns63.sv one_int (by omega) (by simp only [List.length_cons, List.length_nil]; omega) (by unfold maxLen; simp only [List.length_cons, List.length_nil]; omega) (fun a64 w64 fw64 cw64 => ?_)
   have nw64 := Own.app (f := (Value.int .i64)) (a := os) (b := [(((c : Nat) : Int) + ((dg m).getD k 0)) % 1000000000]) fw64
   have zw64 := cw64.size
   refine av rfl rfl (wl_nil (q_n (k62 _ _ ?_)))
   refine sx_sub (Sub.c 0 rfl (.c 1 rfl (.c 5 rfl (.c 6 rfl (.c 7 rfl (.c 8 rfl .nil)))))) ?_
   refine sx_region ?_
   refine mv rfl rfl (sp rfl (px_quo rfl rfl (by omega) (by omega) (by omega)) ?_)
   refine av rfl rfl (wl_nil ?_)
   refine q_bn (q_n (k50 _ _ ?_))
   refine sx_region ?_
   refine mv rfl rfl (sp rfl (px_add rfl rfl (by omega)) ?_)
   refine av rfl rfl (wl_nil ?_)
   have q66 := Chg.step (l := w.heap.size) (h := ws3.heap.size) cwl7 cs63 (by omega)
   have q67 := Chg.step (l := w.heap.size) (h := ws3.heap.size) q66 cw64 (by omega)
   have hs : ((((c : Nat) : Int) + ((dg m).getD k 0)) : Int) = ((c : Nat) : Int) + (((dg m).getD k 0).toNat : Nat) + (((dg n).getD k 0).toNat : Nat) := by omega
   have hv2 : vl (os ++ [((((c : Nat) : Int) + ((dg m).getD k 0))) % 1000000000]) + Bs ^ (k + 1) * (((((c : Nat) : Int) + ((dg m).getD k 0))) / 1000000000 : Int).toNat = vl ((dg m).take (k + 1)) + vl ((dg n).take (k + 1)) := by
    rw [vl_concat, hos, vl_take_succ', vl_take_succ', Nat.pow_succ]
    exact add_step hs hv
   have hX := mod_bd (s := (((c : Nat) : Int) + ((dg m).getD k 0))) (by omega)
   have hl3 : k + 1 ≤ max (dg m).length (dg n).length ∨ ((((((c : Nat) : Int) + ((dg m).getD k 0))) / 1000000000 : Int).toNat = 0 ∧ k + 1 = max (dg m).length (dg n).length + 1 ∧ Bs ^ (k + 1 - 1) ≤ vl (os ++ [((((c : Nat) : Int) + ((dg m).getD k 0))) % 1000000000])) := by
    by_cases hkM : k + 1 ≤ max (dg m).length (dg n).length
    · exact .inl hkM
    · first
     | (exfalso; omega)
     | (refine .inr ⟨by omega, by omega, ?_⟩; rw [vl_concat, hos, Nat.add_sub_cancel, show ((((c : Nat) : Int) + ((dg m).getD k 0))) % 1000000000 = 1 by omega]; exact Nat.le_trans (by simp) (Nat.le_add_left _ _))
   exact fun a ha => ⟨_, by omega, (k + 1), a64, (os ++ ([(((c : Nat) : Int) + ((dg m).getD k 0)) % 1000000000])), (((((c : Nat) : Int) + ((dg m).getD k 0))) / 1000000000 : Int).toNat, ha.sub (Sub.c 0 rfl (.c 1 rfl (.c 5 rfl (.c 6 (look_int (t := 6) rfl (by first | omega | simp)) (.c 7 (look_int (t := 7) rfl (by first | omega | simp)) .nil))))), q67, (nw64.mono (by omega) (by omega)), rfl, by simp [hos], hlm.append (Lm.single hX.1 hX.2), by omega, hv2, hl3⟩
  have gm := getD_ge (zs := dg m) (k := k) (by omega)
  refine sx_skip ?_
  refine q_n (k52 _ _ ?_)
  refine sx_seq fun K68 k68 => ?_
  refine sx_seq fun K69 k69 => sx_region ?_
  refine mv rfl rfl (mv rfl rfl (sp rfl (px_len rfl Tryz.underlying26 f49) ?_))
  refine sp rfl (px_lt rfl rfl) ?_
  refine wl_nil (q_n (k69 _ _ ?_))
  refine sx_sub (Sub.c 0 rfl (.c 1 rfl (.c 5 rfl (.c 6 rfl (.c 7 rfl (.c 8 rfl (.c 40 rfl .nil))))))) ?_
  refine sx_condP rfl (fun h87 => ?_) (fun h87 => ?_)
  ·
   refine sx_region ?_
   refine mv rfl rfl (mv rfl rfl (mv rfl rfl (sp rfl (px_index1 (j := k) rfl rfl (by omega) Tryz.underlying26 Tryz.sizeOf3 f49 (by omega)) ?_)))
   refine sp rfl (px_load rfl (f49.load1 (at_int (by omega)) Tryz.isAgg3)) ?_
   refine sp rfl (px_add rfl rfl (by omega)) ?_
   refine av rfl rfl (wl_nil (q_n (k68 _ _ ?_)))
   refine sx_seq fun K70 k70 => sx_region ?_
   refine mv rfl rfl (mv rfl rfl (sp rfl (px_rem rfl rfl (by omega) (by omega)) ?_))
   refine sx_lit1 rfl xelt26 rfl rfl (fun s71 ws71 ss71 fs71 cs71 => ?_)
   have ns71 := Own.norm (f := (Value.int .i64)) (zs := [(((c : Nat) : Int) + ((dg n).getD k 0)) % 1000000000]) fs71
   have zws71 := cs71.size
   have f73 := hs_s.ext cs71
   refine sx_append rfl xelt26 rfl rfl f73 ns71.sv one_int (by omega) (by simp only [List.length_cons, List.length_nil]; omega) (by unfold maxLen; simp only [List.length_cons, List.length_nil]; omega) (fun a72 w72 fw72 cw72 => ?_)
   have nw72 := Own.app (f := (Value.int .i64)) (a := os) (b := [(((c : Nat) : Int) + ((dg n).getD k 0)) % 1000000000]) fw72
   have zw72 := cw72.size
   refine av rfl rfl (wl_nil (q_n (k70 _ _ ?_)))
   refine sx_sub (Sub.c 0 rfl (.c 1 rfl (.c 5 rfl (.c 6 rfl (.c 7 rfl (.c 8 rfl .nil)))))) ?_
   refine sx_region ?_
   refine mv rfl rfl (sp rfl (px_quo rfl rfl (by omega) (by omega) (by omega)) ?_)
   refine av rfl rfl (wl_nil ?_)
   refine q_bn (q_n (k50 _ _ ?_))
   refine sx_region ?_
   refine mv rfl rfl (sp rfl (px_add rfl rfl (by omega)) ?_)
   refine av rfl rfl (wl_nil ?_)
   have q74 := Chg.step (l := w.heap.size) (h := ws3.heap.size) cwl7 cs71 (by omega)
   have q75 := Chg.step (l := w.heap.size) (h := ws3.heap.size) q74 cw72 (by omega)
   have hs : ((((c : Nat) : Int) + ((dg n).getD k 0)) : Int) = ((c : Nat) : Int) + (((dg m).getD k 0).toNat : Nat) + (((dg n).getD k 0).toNat : Nat) := by omega
   have hv2 : vl (os ++ [((((c : Nat) : Int) + ((dg n).getD k 0))) % 1000000000]) + Bs ^ (k + 1) * (((((c : Nat) : Int) + ((dg n).getD k 0))) / 1000000000 : Int).toNat = vl ((dg m).take (k + 1)) + vl ((dg n).take (k + 1)) := by
    rw [vl_concat, hos, vl_take_succ', vl_take_succ', Nat.pow_succ]
    exact add_step hs hv
   have hX := mod_bd (s := (((c : Nat) : Int) + ((dg n).getD k 0))) (by omega)
   have hl3 : k + 1 ≤ max (dg m).length (dg n).length ∨ ((((((c : Nat) : Int) + ((dg n).getD k 0))) / 1000000000 : Int).toNat = 0 ∧ k + 1 = max (dg m).length (dg n).length + 1 ∧ Bs ^ (k + 1 - 1) ≤ vl (os ++ [((((c : Nat) : Int) + ((dg n).getD k 0))) % 1000000000])) := by
    by_cases hkM : k + 1 ≤ max (dg m).length (dg n).length
    · exact .inl hkM
    · first
     | (exfalso; omega)
     | (refine .inr ⟨by omega, by omega, ?_⟩; rw [vl_concat, hos, Nat.add_sub_cancel, show ((((c : Nat) : Int) + ((dg n).getD k 0))) % 1000000000 = 1 by omega]; exact Nat.le_trans (by simp) (Nat.le_add_left _ _))
   exact fun a ha => ⟨_, by omega, (k + 1), a72, (os ++ ([(((c : Nat) : Int) + ((dg n).getD k 0)) % 1000000000])), (((((c : Nat) : Int) + ((dg n).getD k 0))) / 1000000000 : Int).toNat, ha.sub (Sub.c 0 rfl (.c 1 rfl (.c 5 rfl (.c 6 (look_int (t := 6) rfl (by first | omega | simp)) (.c 7 (look_int (t := 7) rfl (by first | omega | simp)) .nil))))), q75, (nw72.mono (by omega) (by omega)), rfl, by simp [hos], hlm.append (Lm.single hX.1 hX.2), by omega, hv2, hl3⟩
  have gn := getD_ge (zs := dg n) (k := k) (by omega)
  refine sx_skip ?_
  refine q_n (k68 _ _ ?_)
  refine sx_seq fun K76 k76 => sx_region ?_
  refine mv rfl rfl (mv rfl rfl (sp rfl (px_rem rfl rfl (by omega) (by omega)) ?_))
  refine sx_lit1 rfl xelt26 rfl rfl (fun s77 ws77 ss77 fs77 cs77 => ?_)
  have ns77 := Own.norm (f := (Value.int .i64)) (zs := [((c : Nat) : Int) % 1000000000]) fs77
  have zws77 := cs77.size
  have f79 := hs_s.ext cs77
  refine sx_append rfl xelt26 rfl rfl f79 ns77.sv one_int (by omega) (by simp only [List.length_cons, List.length_nil]; omega) (by unfold maxLen; simp only [List.length_cons, List.length_nil]; omega) (fun a78 w78 fw78 cw78 => ?_)
  have nw78 := Own.app (f := (Value.int .i64)) (a := os) (b := [((c : Nat) : Int) % 1000000000]) fw78
  have zw78 := cw78.size
  refine av rfl rfl (wl_nil (q_n (k76 _ _ ?_)))
  refine sx_region ?_
  refine mv rfl rfl (sp rfl (px_quo rfl rfl (by omega) (by omega) (by omega)) ?_)
  refine av rfl rfl (wl_nil ?_)
  refine q_bn (q_n (k50 _ _ ?_))
  refine sx_region ?_
  refine mv rfl rfl (sp rfl (px_add rfl rfl (by omega)) ?_)
  refine av rfl rfl (wl_nil ?_)
  have q80 := Chg.step (l := w.heap.size) (h := ws3.heap.size) cwl7 cs77 (by omega)
  have q81 := Chg.step (l := w.heap.size) (h := ws3.heap.size) q80 cw78 (by omega)
  have hs : (((c : Nat) : Int) : Int) = ((c : Nat) : Int) + (((dg m).getD k 0).toNat : Nat) + (((dg n).getD k 0).toNat : Nat) := by omega
  have hv2 : vl (os ++ [(((c : Nat) : Int)) % 1000000000]) + Bs ^ (k + 1) * ((((c : Nat) : Int)) / 1000000000 : Int).toNat = vl ((dg m).take (k + 1)) + vl ((dg n).take (k + 1)) := by
   rw [vl_concat, hos, vl_take_succ', vl_take_succ', Nat.pow_succ]
   exact add_step hs hv
  have hX := mod_bd (s := ((c : Nat) : Int)) (by omega)
  have hl3 : k + 1 ≤ max (dg m).length (dg n).length ∨ (((((c : Nat) : Int)) / 1000000000 : Int).toNat = 0 ∧ k + 1 = max (dg m).length (dg n).length + 1 ∧ Bs ^ (k + 1 - 1) ≤ vl (os ++ [(((c : Nat) : Int)) % 1000000000])) := by
   by_cases hkM : k + 1 ≤ max (dg m).length (dg n).length
   · exact .inl hkM
   · first
    | (exfalso; omega)
    | (refine .inr ⟨by omega, by omega, ?_⟩; rw [vl_concat, hos, Nat.add_sub_cancel, show (((c : Nat) : Int)) % 1000000000 = 1 by omega]; exact Nat.le_trans (by simp) (Nat.le_add_left _ _))
  exact fun a ha => ⟨_, by omega, (k + 1), a78, (os ++ ([((c : Nat) : Int) % 1000000000])), ((((c : Nat) : Int)) / 1000000000 : Int).toNat, ha.sub (Sub.c 0 rfl (.c 1 rfl (.c 5 rfl (.c 6 (look_int (t := 6) rfl (by first | omega | simp)) (.c 7 (look_int (t := 7) rfl (by first | omega | simp)) .nil))))), q81, (nw78.mono (by omega) (by omega)), rfl, by simp [hos], hlm.append (Lm.single hX.1 hX.2), by omega, hv2, hl3⟩
 refine sx_guardT rfl rfl rfl ?_
 refine mv rfl rfl ?_
 refine sx_guardT rfl rfl rfl ?_
 refine sp rfl (px_gt rfl rfl) ?_
 refine sp rfl (px_pick rfl rfl) ?_
 refine wl_nil (q_n (k9 _ _ ?_))
 refine sx_sub (Sub.c 0 rfl (.c 1 rfl (.c 5 rfl (.c 6 rfl (.c 7 rfl (.c 23 rfl .nil)))))) ?_
 refine sx_condP rfl (fun h82x2 => ?_) (fun h82x2 => ?_)
 ·
  refine sx_skip ?_
  refine q_n (k8 _ _ ?_)
  refine sx_seq fun K82 k82 => ?_
  refine sx_block ?_
  refine sx_seq fun K83 k83 => sx_region ?_
  refine mv rfl rfl (av rfl rfl (wl_nil (q_n (k83 _ _ ?_))))
  refine sx_seq fun K84 k84 => ?_
  refine sx_seq fun K85 k85 => sx_region ?_
  refine mv rfl rfl (mv rfl rfl (sp rfl (px_len rfl Tryz.underlying26 f11) ?_))
  refine sp rfl (px_lt rfl rfl) ?_
  refine wl_nil (q_n (k85 _ _ ?_))
  refine sx_condP rfl (fun h84 => ?_) (fun h84 => ?_)
  ·
   refine sx_region ?_
   refine mv rfl rfl (mv rfl rfl (mv rfl rfl (sp rfl (px_index1 (j := k) rfl rfl (by omega) Tryz.underlying26 Tryz.sizeOf3 f11 (by omega)) ?_)))
   refine sp rfl (px_load rfl (f11.load1 (at_int (by omega)) Tryz.isAgg3)) ?_
   refine sp rfl (px_add rfl rfl (by omega)) ?_
   refine av rfl rfl (wl_nil (q_n (k84 _ _ ?_)))
   refine sx_sub (Sub.c 0 rfl (.c 1 rfl (.c 5 rfl (.c 6 rfl (.c 7 rfl (.c 8 rfl .nil)))))) ?_
   refine sx_seq fun K86 k86 => ?_
   refine sx_seq fun K87 k87 => sx_region ?_
   refine mv rfl rfl (mv rfl rfl (sp rfl (px_len rfl Tryz.underlying26 f49) ?_))
   refine sp rfl (px_lt rfl rfl) ?_
   refine wl_nil (q_n (k87 _ _ ?_))
   refine sx_condP rfl (fun h87 => ?_) (fun h87 => ?_)
   ·
    refine sx_region ?_
    refine mv rfl rfl (mv rfl rfl (mv rfl rfl (sp rfl (px_index1 (j := k) rfl rfl (by omega) Tryz.underlying26 Tryz.sizeOf3 f49 (by omega)) ?_)))
    refine sp rfl (px_load rfl (f49.load1 (at_int (by omega)) Tryz.isAgg3)) ?_
    refine sp rfl (px_add rfl rfl (by omega)) ?_
    refine av rfl rfl (wl_nil (q_n (k86 _ _ ?_)))
    refine sx_sub (Sub.c 0 rfl (.c 1 rfl (.c 5 rfl (.c 6 rfl (.c 7 rfl (.c 8 rfl .nil)))))) ?_
    refine sx_seq fun K88 k88 => sx_region ?_
    refine mv rfl rfl (mv rfl rfl (sp rfl (px_rem rfl rfl (by omega) (by omega)) ?_))
    refine sx_lit1 rfl xelt26 rfl rfl (fun s89 ws89 ss89 fs89 cs89 => ?_)
    have ns89 := Own.norm (f := (Value.int .i64)) (zs := [((((c : Nat) : Int) + ((dg m).getD k 0)) + ((dg n).getD k 0)) % 1000000000]) fs89
    have zws89 := cs89.size
    have f91 := hs_s.ext cs89
    refine sx_append rfl xelt26 rfl rfl f91 ns89.sv one_int (by omega) (by simp only [List.length_cons, List.length_nil]; omega) (by unfold maxLen; simp only [List.length_cons, List.length_nil]; omega) (fun a90 w90 fw90 cw90 => ?_)
    have nw90 := Own.app (f := (Value.int .i64)) (a := os) (b := [((((c : Nat) : Int) + ((dg m).getD k 0)) + ((dg n).getD k 0)) % 1000000000]) fw90
    have zw90 := cw90.size
    refine av rfl rfl (wl_nil (q_n (k88 _ _ ?_)))
    refine sx_region ?_
    refine mv rfl rfl (sp rfl (px_quo rfl rfl (by omega) (by omega) (by omega)) ?_)
    refine av rfl rfl (wl_nil ?_)
    refine q_bn (q_n (k82 _ _ ?_))
    refine sx_region ?_
    refine mv rfl rfl (sp rfl (px_add rfl rfl (by omega)) ?_)
    refine av rfl rfl (wl_nil ?_)
    have q92 := Chg.step (l := w.heap.size) (h := ws3.heap.size) cwl7 cs89 (by omega)
    have q93 := Chg.step (l := w.heap.size) (h := ws3.heap.size) q92 cw90 (by omega)
    have hs : (((((c : Nat) : Int) + ((dg m).getD k 0)) + ((dg n).getD k 0)) : Int) = ((c : Nat) : Int) + (((dg m).getD k 0).toNat : Nat) + (((dg n).getD k 0).toNat : Nat) := by omega
    have hv2 : vl (os ++ [(((((c : Nat) : Int) + ((dg m).getD k 0)) + ((dg n).getD k 0))) % 1000000000]) + Bs ^ (k + 1) * ((((((c : Nat) : Int) + ((dg m).getD k 0)) + ((dg n).getD k 0))) / 1000000000 : Int).toNat = vl ((dg m).take (k + 1)) + vl ((dg n).take (k + 1)) := by
     rw [vl_concat, hos, vl_take_succ', vl_take_succ', Nat.pow_succ]
     exact add_step hs hv
    have hX := mod_bd (s := ((((c : Nat) : Int) + ((dg m).getD k 0)) + ((dg n).getD k 0))) (by omega)
    have hl3 : k + 1 ≤ max (dg m).length (dg n).length ∨ (((((((c : Nat) : Int) + ((dg m).getD k 0)) + ((dg n).getD k 0))) / 1000000000 : Int).toNat = 0 ∧ k + 1 = max (dg m).length (dg n).length + 1 ∧ Bs ^ (k + 1 - 1) ≤ vl (os ++ [(((((c : Nat) : Int) + ((dg m).getD k 0)) + ((dg n).getD k 0))) % 1000000000])) := by
     by_cases hkM : k + 1 ≤ max (dg m).length (dg n).length
     · exact .inl hkM
     · first
      | (exfalso; omega)
      | (refine .inr ⟨by omega, by omega, ?_⟩; rw [vl_concat, hos, Nat.add_sub_cancel, show (((((c : Nat) : Int) + ((dg m).getD k 0)) + ((dg n).getD k 0))) % 1000000000 = 1 by omega]; exact Nat.le_trans (by simp) (Nat.le_add_left _ _))
    exact fun a ha => ⟨_, by omega, (k + 1), a90, (os ++ ([((((c : Nat) : Int) + ((dg m).getD k 0)) + ((dg n).getD k 0)) % 1000000000])), ((((((c : Nat) : Int) + ((dg m).getD k 0)) + ((dg n).getD k 0))) / 1000000000 : Int).toNat, ha.sub (Sub.c 0 rfl (.c 1 rfl (.c 5 rfl (.c 6 (look_int (t := 6) rfl (by first | omega | simp)) (.c 7 (look_int (t := 7) rfl (by first | omega | simp)) .nil))))), q93, (nw90.mono (by omega) (by omega)), rfl, by simp [hos], hlm.append (Lm.single hX.1 hX.2), by omega, hv2, hl3⟩
   have gn := getD_ge (zs := dg n) (k := k) (by omega)
   refine sx_skip ?_
   refine q_n (k86 _ _ ?_)
   refine sx_seq fun K94 k94 => sx_region ?_
   refine mv rfl rfl (mv rfl rfl (sp rfl (px_rem rfl rfl (by omega) (by omega)) ?_))
   refine sx_lit1 rfl xelt26 rfl rfl (fun s95 ws95 ss95 fs95 cs95 => ?_)
   have ns95 := Own.norm (f := (Value.int .i64)) (zs := [(((c : Nat) : Int) + ((dg m).getD k 0)) % 1000000000]) fs95
   have zws95 := cs95.size
   have f97 := hs_s.ext cs95
   refine sx_append rfl xelt26 rfl rfl f97 ns95.sv one_int (by omega) (by simp only [List.length_cons, List.length_nil]; omega) (by unfold maxLen; simp only [List.length_cons, List.length_nil]; omega) (fun a96 w96 fw96 cw96 => ?_)
   have nw96 := Own.app (f := (Value.int .i64)) (a := os) (b := [(((c : Nat) : Int) + ((dg m).getD k 0)) % 1000000000]) fw96
   have zw96 := cw96.size
   refine av rfl rfl (wl_nil (q_n (k94 _ _ ?_)))
   refine sx_sub (Sub.c 0 rfl (.c 1 rfl (.c 5 rfl (.c 6 rfl (.c 7 rfl (.c 8 rfl .nil)))))) ?_
   refine sx_region ?_
   refine mv rfl rfl (sp rfl (px_quo rfl rfl (by omega) (by omega) (by omega)) ?_)
   refine av rfl rfl (wl_nil ?_)
   refine q_bn (q_n (k82 _ _ ?_))
   refine sx_region ?_
   refine mv rfl rfl (sp rfl (px_add rfl rfl (by omega)) ?_)
   refine av rfl rfl (wl_nil ?_)
   have q98 := Chg.step (l := w.heap.size) (h := ws3.heap.size) cwl7 cs95 (by omega)
   have q99 := Chg.step (l := w.heap.size) (h := ws3.heap.size) q98 cw96 (by omega)
   have hs : ((((c : Nat) : Int) + ((dg m).getD k 0)) : Int) = ((c : Nat) : Int) + (((dg m).getD k 0).toNat : Nat) + (((dg n).getD k 0).toNat : Nat) := by omega
   have hv2 : vl (os ++ [((((c : Nat) : Int) + ((dg m).getD k 0))) % 1000000000]) + Bs ^ (k + 1) * (((((c : Nat) : Int) + ((dg m).getD k 0))) / 1000000000 : Int).toNat = vl ((dg m).take (k + 1)) + vl ((dg n).take (k + 1)) := by
    rw [vl_concat, hos, vl_take_succ', vl_take_succ', Nat.pow_succ]
    exact add_step hs hv
   have hX := mod_bd (s := (((c : Nat) : Int) + ((dg m).getD k 0))) (by omega)
   have hl3 : k + 1 ≤ max (dg m).length (dg n).length ∨ ((((((c : Nat) : Int) + ((dg m).getD k 0))) / 1000000000 : Int).toNat = 0 ∧ k + 1 = max (dg m).length (dg n).length + 1 ∧ Bs ^ (k + 1 - 1) ≤ vl (os ++ [((((c : Nat) : Int) + ((dg m).getD k 0))) % 1000000000])) := by
    by_cases hkM : k + 1 ≤ max (dg m).length (dg n).length
    · exact .inl hkM
    · first
     | (exfalso; omega)
     | (refine .inr ⟨by omega, by omega, ?_⟩; rw [vl_concat, hos, Nat.add_sub_cancel, show ((((c : Nat) : Int) + ((dg m).getD k 0))) % 1000000000 = 1 by omega]; exact Nat.le_trans (by simp) (Nat.le_add_left _ _))
   exact fun a ha => ⟨_, by omega, (k + 1), a96, (os ++ ([(((c : Nat) : Int) + ((dg m).getD k 0)) % 1000000000])), (((((c : Nat) : Int) + ((dg m).getD k 0))) / 1000000000 : Int).toNat, ha.sub (Sub.c 0 rfl (.c 1 rfl (.c 5 rfl (.c 6 (look_int (t := 6) rfl (by first | omega | simp)) (.c 7 (look_int (t := 7) rfl (by first | omega | simp)) .nil))))), q99, (nw96.mono (by omega) (by omega)), rfl, by simp [hos], hlm.append (Lm.single hX.1 hX.2), by omega, hv2, hl3⟩
  have gm := getD_ge (zs := dg m) (k := k) (by omega)
  refine sx_skip ?_
  refine q_n (k84 _ _ ?_)
  refine sx_seq fun K100 k100 => ?_
  refine sx_seq fun K101 k101 => sx_region ?_
  refine mv rfl rfl (mv rfl rfl (sp rfl (px_len rfl Tryz.underlying26 f49) ?_))
  refine sp rfl (px_lt rfl rfl) ?_
  refine wl_nil (q_n (k101 _ _ ?_))
  refine sx_sub (Sub.c 0 rfl (.c 1 rfl (.c 5 rfl (.c 6 rfl (.c 7 rfl (.c 8 rfl (.c 40 rfl .nil))))))) ?_
  refine sx_condP rfl (fun h87 => ?_) (fun h87 => ?_)
  ·
   refine sx_region ?_
   refine mv rfl rfl (mv rfl rfl (mv rfl rfl (sp rfl (px_index1 (j := k) rfl rfl (by omega) Tryz.underlying26 Tryz.sizeOf3 f49 (by omega)) ?_)))
   refine sp rfl (px_load rfl (f49.load1 (at_int (by omega)) Tryz.isAgg3)) ?_
   refine sp rfl (px_add rfl rfl (by omega)) ?_
   refine av rfl rfl (wl_nil (q_n (k100 _ _ ?_)))
   refine sx_seq fun K102 k102 => sx_region ?_
   refine mv rfl rfl (mv rfl rfl (sp rfl (px_rem rfl rfl (by omega) (by omega)) ?_))
   refine sx_lit1 rfl xelt26 rfl rfl (fun s103 ws103 ss103 fs103 cs103 => ?_)
   have ns103 := Own.norm (f := (Value.int .i64)) (zs := [(((c : Nat) : Int) + ((dg n).getD k 0)) % 1000000000]) fs103
   have zws103 := cs103.size
   have f105 := hs_s.ext cs103
   refine sx_append rfl xelt26 rfl rfl f105 ns103.sv one_int (by omega) (by simp only [List.length_cons, List.length_nil]; omega) (by unfold maxLen; simp only [List.length_cons, List.length_nil]; omega) (fun a104 w104 fw104 cw104 => ?_)
   have nw104 := Own.app (f := (Value.int .i64)) (a := os) (b := [(((c : Nat) : Int) + ((dg n).getD k 0)) % 1000000000]) fw104
   have zw104 := cw104.size
   refine av rfl rfl (wl_nil (q_n (k102 _ _ ?_)))
   refine sx_sub (Sub.c 0 rfl (.c 1 rfl (.c 5 rfl (.c 6 rfl (.c 7 rfl (.c 8 rfl .nil)))))) ?_
   refine sx_region ?_
   refine mv rfl rfl (sp rfl (px_quo rfl rfl (by omega) (by omega) (by omega)) ?_)
   refine av rfl rfl (wl_nil ?_)
   refine q_bn (q_n (k82 _ _ ?_))
   refine sx_region ?_
   refine mv rfl rfl (sp rfl (px_add rfl rfl (by omega)) ?_)
   refine av rfl rfl (wl_nil ?_)
   have q106 := Chg.step (l := w.heap.size) (h := ws3.heap.size) cwl7 cs103 (by omega)
   have q107 := Chg.step (l := w.heap.size) (h := ws3.heap.size) q106 cw104 (by omega)
   have hs : ((((c : Nat) : Int) + ((dg n).getD k 0)) : Int) = ((c : Nat) : Int) + (((dg m).getD k 0).toNat : Nat) + (((dg n).getD k 0).toNat : Nat) := by omega
   have hv2 : vl (os ++ [((((c : Nat) : Int) + ((dg n).getD k 0))) % 1000000000]) + Bs ^ (k + 1) * (((((c : Nat) : Int) + ((dg n).getD k 0))) / 1000000000 : Int).toNat = vl ((dg m).take (k + 1)) + vl ((dg n).take (k + 1)) := by
    rw [vl_concat, hos, vl_take_succ', vl_take_succ', Nat.pow_succ]
    exact add_step hs hv
   have hX := mod_bd (s := (((c : Nat) : Int) + ((dg n).getD k 0))) (by omega)
   have hl3 : k + 1 ≤ max (dg m).length (dg n).length ∨ ((((((c : Nat) : Int) + ((dg n).getD k 0))) / 1000000000 : Int).toNat = 0 ∧ k + 1 = max (dg m).length (dg n).length + 1 ∧ Bs ^ (k + 1 - 1) ≤ vl (os ++ [((((c : Nat) : Int) + ((dg n).getD k 0))) % 1000000000])) := by
    by_cases hkM : k + 1 ≤ max (dg m).length (dg n).length
    · exact .inl hkM
    · first
     | (exfalso; omega)
     | (refine .inr ⟨by omega, by omega, ?_⟩; rw [vl_concat, hos, Nat.add_sub_cancel, show ((((c : Nat) : Int) + ((dg n).getD k 0))) % 1000000000 = 1 by omega]; exact Nat.le_trans (by simp) (Nat.le_add_left _ _))
   exact fun a ha => ⟨_, by omega, (k + 1), a104, (os ++ ([(((c : Nat) : Int) + ((dg n).getD k 0)) % 1000000000])), (((((c : Nat) : Int) + ((dg n).getD k 0))) / 1000000000 : Int).toNat, ha.sub (Sub.c 0 rfl (.c 1 rfl (.c 5 rfl (.c 6 (look_int (t := 6) rfl (by first | omega | simp)) (.c 7 (look_int (t := 7) rfl (by first | omega | simp)) .nil))))), q107, (nw104.mono (by omega) (by omega)), rfl, by simp [hos], hlm.append (Lm.single hX.1 hX.2), by omega, hv2, hl3⟩
  have gn := getD_ge (zs := dg n) (k := k) (by omega)
  refine sx_skip ?_
  refine q_n (k100 _ _ ?_)
  refine sx_seq fun K108 k108 => sx_region ?_
  refine mv rfl rfl (mv rfl rfl (sp rfl (px_rem rfl rfl (by omega) (by omega)) ?_))
  refine sx_lit1 rfl xelt26 rfl rfl (fun s109 ws109 ss109 fs109 cs109 => ?_)
  have ns109 := Own.norm (f := (Value.int .i64)) (zs := [((c : Nat) : Int) % 1000000000]) fs109
  have zws109 := cs109.size
  have f111 := hs_s.ext cs109
  refine sx_append rfl xelt26 rfl rfl f111 ns109.sv one_int (by omega) (by simp only [List.length_cons, List.length_nil]; omega) (by unfold maxLen; simp only [List.length_cons, List.length_nil]; omega) (fun a110 w110 fw110 cw110 => ?_)
  have nw110 := Own.app (f := (Value.int .i64)) (a := os) (b := [((c : Nat) : Int) % 1000000000]) fw110
  have zw110 := cw110.size
  refine av rfl rfl (wl_nil (q_n (k108 _ _ ?_)))
  refine sx_region ?_
  refine mv rfl rfl (sp rfl (px_quo rfl rfl (by omega) (by omega) (by omega)) ?_)
  refine av rfl rfl (wl_nil ?_)
  refine q_bn (q_n (k82 _ _ ?_))
  refine sx_region ?_
  refine mv rfl rfl (sp rfl (px_add rfl rfl (by omega)) ?_)
  refine av rfl rfl (wl_nil ?_)
  have q112 := Chg.step (l := w.heap.size) (h := ws3.heap.size) cwl7 cs109 (by omega)
  have q113 := Chg.step (l := w.heap.size) (h := ws3.heap.size) q112 cw110 (by omega)
  have hs : (((c : Nat) : Int) : Int) = ((c : Nat) : Int) + (((dg m).getD k 0).toNat : Nat) + (((dg n).getD k 0).toNat : Nat) := by omega
  have hv2 : vl (os ++ [(((c : Nat) : Int)) % 1000000000]) + Bs ^ (k + 1) * ((((c : Nat) : Int)) / 1000000000 : Int).toNat = vl ((dg m).take (k + 1)) + vl ((dg n).take (k + 1)) := by
   rw [vl_concat, hos, vl_take_succ', vl_take_succ', Nat.pow_succ]
   exact add_step hs hv
  have hX := mod_bd (s := ((c : Nat) : Int)) (by omega)
  have hl3 : k + 1 ≤ max (dg m).length (dg n).length ∨ (((((c : Nat) : Int)) / 1000000000 : Int).toNat = 0 ∧ k + 1 = max (dg m).length (dg n).length + 1 ∧ Bs ^ (k + 1 - 1) ≤ vl (os ++ [(((c : Nat) : Int)) % 1000000000])) := by
   by_cases hkM : k + 1 ≤ max (dg m).length (dg n).length
   · exact .inl hkM
   · first
    | (exfalso; omega)
    | (refine .inr ⟨by omega, by omega, ?_⟩; rw [vl_concat, hos, Nat.add_sub_cancel, show (((c : Nat) : Int)) % 1000000000 = 1 by omega]; exact Nat.le_trans (by simp) (Nat.le_add_left _ _))
  exact fun a ha => ⟨_, by omega, (k + 1), a110, (os ++ ([((c : Nat) : Int) % 1000000000])), ((((c : Nat) : Int)) / 1000000000 : Int).toNat, ha.sub (Sub.c 0 rfl (.c 1 rfl (.c 5 rfl (.c 6 (look_int (t := 6) rfl (by first | omega | simp)) (.c 7 (look_int (t := 7) rfl (by first | omega | simp)) .nil))))), q113, (nw110.mono (by omega) (by omega)), rfl, by simp [hos], hlm.append (Lm.single hX.1 hX.2), by omega, hv2, hl3⟩
 refine sx_exit ?_
 refine q_e (q_e (q_bx (q_n (k5 _ _ ?_))))
 refine sx_seq fun K114 k114 => ?_
 have hc0 : c = 0 := by omega
 subst hc0
 rw [Nat.mul_zero, Nat.add_zero, vl_take_ge (by omega), vl_take_ge (by omega), vl_dg, vl_dg] at hv
 have hd : os = dg (m + n) := add_end hlm hos hv hlast (by omega)
 subst hd
 refine sx_region ?_
 refine mv rfl rfl (av rfl rfl (wl_nil (q_n (k114 _ _ ?_))))
 refine sx_retc ?_
 refine sx_ret1 Tryz.results152 rfl ?_
 have q115 := Chg.step (l := 0) (h := 0) (Chg.zero (l := 0) (h := 0) cs3) cwl7 (by omega)
 exact ⟨_, rfl, (Own.sv hs_s).mono (by omega) (by omega), q115⟩

theorem c_l02Add1 {w : World} {va : Value} {lva uva : Nat} {m : Nat} {vb : Value} {lvb uvb : Nat} {ys : List Int} (hva : Sl w lva uva va (dg m)) (hvb : Sl w lvb uvb vb (ys)) (hbm : (dg m).length ≤ 1000) (hy : ys = [1]) :
  Ret Tryz.prog 152 [va, vb] w fun v w' => ∃ s, v = s ∧ Sl w' (w.heap.size) (w'.heap.size) s (dg (m + 1)) ∧ Chg 0 0 w w' := by
 rw [hy, ← dg_1] at hvb; exact c_l02Add hva hvb hbm (by rw [dg_1]; simp)

theorem c_sNatEven {w : World} {va : Value} {lva uva : Nat} {m : Nat} (hva : Sl w lva uva va (dg m)) (hbm : (dg m).length ≤ 50) :
  Ret Tryz.prog 155 [va] w fun v w' => v = .bool (decide (¬ m % 2 = 1)) ∧ Chg 0 0 w w' := by
 have hva0 := hva.fit
 refine sx_enter Tryz.func155 rfl Tryz.ntmps155 (nbl rfl) ?_
 refine sx_seq fun K1 k1 => sx_region ?_
 refine av rfl rfl (wl_nil (q_n (k1 _ _ ?_)))
 refine sx_seq fun K2 k2 => sx_region ?_
 refine mv rfl rfl (sx_call rfl rfl Tryz.call110 (c_sNatOk hva0 (by omega)) (fun v3 w3 p3 => ?_))
 obtain ⟨rfl, c3⟩ := p3
 have zw3 := c3.size
 refine mv rfl rfl ?_
 have h117 : NOk (dg m) := NOk_dg (by omega)
 refine sx_tmpPT (t := 5) rfl h117 ?_
 refine sx_guardT rfl rfl rfl ?_
 refine mv rfl rfl ?_
 refine sx_guardT rfl rfl rfl ?_
 have f4 := hva0.ext c3
 refine sp rfl (px_len rfl Tryz.underlying26 f4) ?_
 refine sx_guardT rfl rfl rfl ?_
 refine sp rfl (px_eq rfl rfl) ?_
 refine sx_guardT rfl rfl rfl ?_
 refine mv rfl rfl ?_
 refine sx_tmpP (t := 9) rfl (fun h117x1 => ?_) (fun h117x1 => ?_)
 ·
  refine sx_guardF rfl rfl rfl rfl rfl rfl ?_
  refine sx_guardF rfl rfl rfl rfl rfl rfl ?_
  refine sx_guardF rfl rfl rfl rfl rfl rfl ?_
  refine sx_guardF rfl rfl rfl rfl rfl rfl ?_
  refine sx_guardF rfl rfl rfl rfl rfl rfl ?_
  refine sx_guardT rfl rfl rfl ?_
  refine sp rfl (px_pick rfl rfl) ?_
  refine sp rfl (px_pick rfl rfl) ?_
  refine av rfl rfl (wl_nil (q_n (k2 _ _ ?_)))
  refine sx_sub (Sub.c 2 rfl .nil) ?_
  refine sx_retc ?_
  refine sx_ret1 Tryz.results155 rfl ?_
  exact ⟨(by have hk := odd_dg (q := m); first | exact bTrue (hk.1 (.inl (by omega))) | exact bIff ⟨fun h => hk.1 (.inr h), fun h => (hk.2 h).resolve_left (by omega)⟩), c3⟩
 refine sx_guardT rfl rfl rfl ?_
 refine mv rfl rfl ?_
 refine sx_guardT rfl rfl rfl ?_
 refine sp rfl (px_index1 (j := 0) rfl rfl (by omega) Tryz.underlying26 Tryz.sizeOf3 f4 (by omega)) ?_
 refine sx_guardT rfl rfl rfl ?_
 refine sp rfl (px_load rfl (f4.load1 (at_int (by omega)) Tryz.isAgg3)) ?_
 refine sx_guardT rfl rfl rfl ?_
 refine sp rfl (px_rem rfl rfl (by have := (Lm_dg m).getD 0; omega) (by omega)) ?_
 refine sx_guardT rfl rfl rfl ?_
 refine sp rfl (px_eq rfl rfl) ?_
 refine sx_guardT rfl rfl rfl ?_
 refine sp rfl (px_pick rfl rfl) ?_
 refine sp rfl (px_pick rfl rfl) ?_
 refine av rfl rfl (wl_nil (q_n (k2 _ _ ?_)))
 refine sx_sub (Sub.c 2 rfl .nil) ?_
 refine sx_retc ?_
 refine sx_ret1 Tryz.results155 rfl ?_
 exact ⟨(by have hk := odd_dg (q := m); first | exact bTrue (hk.1 (.inl (by omega))) | exact bIff ⟨fun h => hk.1 (.inr h), fun h => (hk.2 h).resolve_left (by omega)⟩), c3⟩

theorem c_l06Away {w : World} {n : Bool} {vq : Value} {lvq uvq : Nat} {q : Nat} {vr : Value} {lvr uvr : Nat} {r : Nat} {vd : Value} {lvd uvd : Nat} {d : Nat} {m : Int} (hvq : Sl w lvq uvq vq (dg q)) (hvr : Sl w lvr uvr vr (dg r)) (hvd : Sl w lvd uvd vd (dg d)) (hbq : (dg q).length ≤ 50) (hbr : (dg r).length ≤ 390) (hbd : (dg d).length ≤ 390) (hm : 0 ≤ m ∧ m ≤ 6) :
  Ret Tryz.prog 151 [.bool n, vq, vr, vd, .int .i64 m] w fun v w' => v = .bool (awayB m n (cmpN (r + r) d) (decide (q % 2 = 1))) ∧ Chg 0 0 w w' := by
 have hvq0 := hvq.fit
 have hvr0 := hvr.fit
 have hvd0 := hvd.fit
 have lrr := len_add r r
 refine sx_enter Tryz.func151 rfl Tryz.ntmps151 (nbl rfl) ?_
 refine sx_seq fun K1 k1 => sx_region ?_
 refine av rfl rfl (wl_nil (q_n (k1 _ _ ?_)))
 refine sx_seq fun K2 k2 => sx_region ?_
 refine mv rfl rfl (mv rfl rfl (sx_call rfl rfl Tryz.call152 (c_l02Add hvr0 hvr0 (by omega) (by omega)) (fun v3 w3 p3 => ?_)))
 obtain ⟨s3, rfl, os_3, c3⟩ := p3
 have zw3 := c3.size
 refine mv rfl rfl ?_
 have f4 := hvd0.ext c3
 refine sx_call rfl rfl Tryz.call111 (c_l02Cmp os_3 f4 (by omega)) (fun v5 w5 p5 => ?_)
 obtain ⟨rfl, c5⟩ := p5
 have zw5 := c5.size
 refine av rfl rfl (wl_nil (q_n (k2 _ _ ?_)))
 refine sx_seq fun K6 k6 => ?_
 refine sx_seq fun K7 k7 => sx_region ?_
 refine mv rfl rfl (wl_nil (q_n (k7 _ _ ?_)))
 refine sx_block ?_
 refine sx_seq fun K8 k8 => sx_region ?_
 refine sp rfl (px_eq rfl rfl) ?_
 refine av rfl rfl (wl_nil (q_n (k8 _ _ ?_)))
 refine sx_sub (Sub.c 0 rfl (.c 1 rfl (.c 10 rfl (.c 11 rfl (.c 17 rfl (.c 18 rfl .nil)))))) ?_
 refine sx_condP rfl (fun h29 => ?_) (fun h29 => ?_)
 ·
  refine sx_seq fun K9 k9 => sx_region ?_
  refine av rfl rfl (wl_nil (q_n (k9 _ _ ?_)))
  refine sx_retc ?_
  refine q_br (q_r (sx_ret1 Tryz.results151 rfl ?_))
  have hcd := cmpL_dg (r + r) d
  exact ⟨by rw [← hcd]; simp_all [awayB], (c3.t c5)⟩
 refine sx_seq fun K10 k10 => sx_region ?_
 refine sp rfl (px_eq rfl rfl) ?_
 refine av rfl rfl (wl_nil (q_n (k10 _ _ ?_)))
 refine sx_condP rfl (fun h31 => ?_) (fun h31 => ?_)
 ·
  refine sx_seq fun K11 k11 => sx_region ?_
  refine av rfl rfl (wl_nil (q_n (k11 _ _ ?_)))
  refine sx_retc ?_
  refine q_br (q_r (sx_ret1 Tryz.results151 rfl ?_))
  have hcd := cmpL_dg (r + r) d
  exact ⟨by rw [← hcd]; simp_all [awayB], (c3.t c5)⟩
 refine sx_seq fun K12 k12 => sx_region ?_
 refine sp rfl (px_eq rfl rfl) ?_
 refine av rfl rfl (wl_nil (q_n (k12 _ _ ?_)))
 refine sx_condP rfl (fun h33 => ?_) (fun h33 => ?_)
 ·
  refine sx_seq fun K13 k13 => sx_region ?_
  refine mv rfl rfl (av rfl rfl (wl_nil (q_n (k13 _ _ ?_))))
  refine sx_retc ?_
  refine q_br (q_r (sx_ret1 Tryz.results151 rfl ?_))
  have hcd := cmpL_dg (r + r) d
  exact ⟨by rw [← hcd]; simp_all [awayB], (c3.t c5)⟩
 refine sx_seq fun K14 k14 => sx_region ?_
 refine sp rfl (px_eq rfl rfl) ?_
 refine av rfl rfl (wl_nil (q_n (k14 _ _ ?_)))
 refine sx_condP rfl (fun h35 => ?_) (fun h35 => ?_)
 ·
  refine sx_seq fun K15 k15 => sx_region ?_
  refine mv rfl rfl (sp rfl (px_not rfl) ?_)
  refine av rfl rfl (wl_nil (q_n (k15 _ _ ?_)))
  refine sx_retc ?_
  refine q_br (q_r (sx_ret1 Tryz.results151 rfl ?_))
  have hcd := cmpL_dg (r + r) d
  exact ⟨by rw [← hcd]; simp_all [awayB], (c3.t c5)⟩
 refine sx_seq fun K16 k16 => sx_region ?_
 refine sp rfl (px_eq rfl rfl) ?_
 refine av rfl rfl (wl_nil (q_n (k16 _ _ ?_)))
 refine sx_condP rfl (fun h37 => ?_) (fun h37 => ?_)
 ·
  refine sx_seq fun K17 k17 => sx_region ?_
  refine mv rfl rfl (sp rfl (px_gt rfl rfl) ?_)
  refine av rfl rfl (wl_nil (q_n (k17 _ _ ?_)))
  refine sx_sub (Sub.c 1 rfl (.c 10 rfl (.c 11 rfl .nil))) ?_
  refine sx_retc ?_
  refine q_br (q_r (sx_ret1 Tryz.results151 rfl ?_))
  have hcd := cmpL_dg (r + r) d
  exact ⟨by rw [← hcd]; simp_all [awayB], (c3.t c5)⟩
 refine sx_seq fun K18 k18 => sx_region ?_
 refine sp rfl (px_eq rfl rfl) ?_
 refine av rfl rfl (wl_nil (q_n (k18 _ _ ?_)))
 refine sx_sub (Sub.c 1 rfl (.c 10 rfl (.c 11 rfl (.c 33 rfl .nil)))) ?_
 refine sx_condP rfl (fun h39 => ?_) (fun h39 => ?_)
 ·
  refine sx_seq fun K19 k19 => sx_region ?_
  refine mv rfl rfl (sp rfl (px_ge rfl rfl) ?_)
  refine av rfl rfl (wl_nil (q_n (k19 _ _ ?_)))
  refine sx_retc ?_
  refine q_br (q_r (sx_ret1 Tryz.results151 rfl ?_))
  have hcd := cmpL_dg (r + r) d
  exact ⟨by rw [← hcd]; simp_all [awayB], (c3.t c5)⟩
 refine sx_skip ?_
 refine q_bn (q_n (k6 _ _ ?_))
 refine sx_seq fun K20 k20 => sx_region ?_
 refine mv rfl rfl (sp rfl (px_gt rfl rfl) ?_)
 refine mv rfl rfl ?_
 refine sx_tmpP (t := 39) rfl (fun h42 => ?_) (fun h42 => ?_)
 ·
  refine sx_guardF rfl rfl rfl rfl rfl rfl ?_
  refine sx_guardF rfl rfl rfl rfl rfl rfl ?_
  refine sx_guardF rfl rfl rfl rfl rfl rfl ?_
  refine sx_guardFU rfl rfl rfl rfl rfl ?_
  refine sx_guardFU rfl rfl rfl rfl rfl ?_
  refine sx_guardFU rfl rfl rfl rfl rfl ?_
  refine sx_guardF rfl rfl rfl rfl rfl rfl ?_
  refine sp rfl (px_pick rfl rfl) ?_
  refine av rfl rfl (wl_nil (q_n (k20 _ _ ?_)))
  refine sx_sub (Sub.c 10 rfl .nil) ?_
  refine sx_retc ?_
  refine sx_ret1 Tryz.results151 rfl ?_
  have hcd := cmpL_dg (r + r) d
  exact ⟨by rw [← hcd]; simp_all [awayB], (c3.t c5)⟩
 refine sx_guardT rfl rfl rfl ?_
 refine mv rfl rfl ?_
 refine sx_guardT rfl rfl rfl ?_
 refine sp rfl (px_eq rfl rfl) ?_
 refine sx_guardT rfl rfl rfl ?_
 refine mv rfl rfl ?_
 refine sx_tmpP (t := 42) rfl (fun h42x1 => ?_) (fun h42x1 => ?_)
 ·
  refine sx_guardT rfl rfl rfl ?_
  refine mv rfl rfl ?_
  refine sx_guardT rfl rfl rfl ?_
  have f22 := (hvq0.ext c3).ext c5
  refine sx_call rfl rfl Tryz.call155 (c_sNatEven f22 (by omega)) (fun v23 w23 p23 => ?_)
  obtain ⟨rfl, c23⟩ := p23
  have zw23 := c23.size
  refine sx_guardT rfl rfl rfl ?_
  refine sp rfl (px_notP rfl) ?_
  refine sx_guardT rfl rfl rfl ?_
  refine sp rfl (px_pick rfl rfl) ?_
  refine sp rfl (px_pick rfl rfl) ?_
  refine av rfl rfl (wl_nil (q_n (k20 _ _ ?_)))
  refine sx_sub (Sub.c 10 rfl .nil) ?_
  refine sx_retc ?_
  refine sx_ret1 Tryz.results151 rfl ?_
  have hcd := cmpL_dg (r + r) d
  exact ⟨by rw [← hcd]; simp_all [awayB], ((c3.t c5).t c23)⟩
 refine sx_guardF rfl rfl rfl rfl rfl rfl ?_
 refine sx_guardF rfl rfl rfl rfl rfl rfl ?_
 refine sx_guardF rfl rfl rfl rfl rfl rfl ?_
 refine sx_guardT rfl rfl rfl ?_
 refine sp rfl (px_pick rfl rfl) ?_
 refine sp rfl (px_pick rfl rfl) ?_
 refine av rfl rfl (wl_nil (q_n (k20 _ _ ?_)))
 refine sx_sub (Sub.c 10 rfl .nil) ?_
 refine sx_retc ?_
 refine sx_ret1 Tryz.results151 rfl ?_
 have hcd := cmpL_dg (r + r) d
 exact ⟨by rw [← hcd]; simp_all [awayB], (c3.t c5)⟩

theorem c_l06Round {w : World} {va : Value} {lva uva : Nat} {x : Int} {vd : Value} {lvd uvd : Nat} {d : Nat} {m : Int} (hva : Sl w lva uva va (dg x.natAbs)) (hvd : Sl w lvd uvd vd (dg d)) (hbx : (dg x.natAbs).length ≤ 49) (hbd : (dg d).length ≤ 390) (hd0 : 0 < d) (hm : 0 ≤ m ∧ m ≤ 6) :
  Ret Tryz.prog 147 [.agg #[.bool (ng x), va, vd], .int .i64 m] w fun v w' => ∃ s, v = .agg #[.bool (ng (rqI x d m)), s] ∧ OwnI w' w.heap.size w'.heap.size s intT (dg (rqI x d m).natAbs) ∧ Chg 0 0 w w' := by
 have hva0 := hva.fit
 have hvd0 := hvd.fit
 have lq := len_div x.natAbs d
 have lr := len_mod (m := x.natAbs) hd0
 have lrr := len_add (x.natAbs % d) (x.natAbs % d)
 refine sx_enter Tryz.func147 rfl Tryz.ntmps147 (nbl rfl) ?_
 refine sx_seq fun K1 k1 => sx_region ?_
 refine sx_box [.bool (ng x), va, vd] rfl rfl rfl (fun b2 w3 eb2 sb2 fb2 cb2 => ?_)
 have zw3 := cb2.size
 refine sx_alloc [.bool false, (.slice none 0 0)] rfl Tryz.zeroValue28 rfl (fun b4 w5 eb4 sb4 fb4 cb4 => ?_)
 have zw5 := cb4.size
 refine wl_nil (q_n (k1 _ _ ?_))
 refine sx_seq fun K6 k6 => sx_region ?_
 refine sp rfl (px_field rfl xfld30x0) ?_
 refine sp rfl (px_field rfl xfld28x1) ?_
 have f7 := fb2.ext cb4
 refine sp rfl (px_load rfl (f7.load1 rfl Tryz.isAgg26)) ?_
 refine sp rfl (px_field rfl xfld30x1) ?_
 refine sp rfl (px_load rfl (f7.load1 rfl Tryz.isAgg26)) ?_
 have f8 := hva0.ext cb2
 have f9 := f8.ext cb4
 have f10 := hvd0.ext cb2
 have f11 := f10.ext cb4
 refine sx_call rfl rfl Tryz.call115 (c_l03Div f9 f11 (by omega) (by omega) (hd0)) (fun v12 w12 p12 => ?_)
 obtain ⟨s12, t12, rfl, os_12, ot_12, c12⟩ := p12
 have zw12 := c12.size
 refine mv rfl rfl (sp rfl (px_ex2 rfl rfl) ?_)
 refine sp rfl (px_ex2 rfl rfl) ?_
 refine av rfl rfl (av rfl rfl (wl_nil (q_n (k6 _ _ ?_))))
 refine sx_sub (Sub.c 1 rfl (.c 2 rfl (.c 4 rfl (.c 5 rfl (.c 6 rfl .nil))))) ?_
 refine sx_seq fun K13 k13 => ?_
 refine sx_seq fun K14 k14 => sx_region ?_
 refine mv rfl rfl (sp rfl (px_len rfl Tryz.underlying26 ot_12) ?_)
 refine sp rfl (px_gt rfl rfl) ?_
 refine mv rfl rfl ?_
 refine sx_tmpP (t := 19) rfl (fun h47 => ?_) (fun h47 => ?_)
 ·
  refine sx_guardT rfl rfl rfl ?_
  refine sp rfl (px_field rfl xfld30x0) ?_
  refine sx_guardT rfl rfl rfl ?_
  refine sp rfl (px_field rfl xfld28x0) ?_
  refine sx_guardT rfl rfl rfl ?_
  have f15 := f7.ext c12
  refine sp rfl (px_load rfl (f15.load1 rfl Tryz.isAgg4)) ?_
  refine sx_guardT rfl rfl rfl ?_
  refine mv rfl rfl ?_
  refine sx_guardT rfl rfl rfl ?_
  refine mv rfl rfl ?_
  refine sx_guardT rfl rfl rfl ?_
  refine sp rfl (px_field rfl xfld30x1) ?_
  refine sx_guardT rfl rfl rfl ?_
  refine sp rfl (px_load rfl (f15.load1 rfl Tryz.isAgg26)) ?_
  refine sx_guardT rfl rfl rfl ?_
  refine mv rfl rfl ?_
  refine sx_guardT rfl rfl rfl ?_
  have f16 := f11.ext c12
  refine sx_call rfl rfl Tryz.call151 (c_l06Away os_12 ot_12 f16 (by omega) (by omega) (by omega) (by omega)) (fun v17 w17 p17 => ?_)
  obtain ⟨rfl, c17⟩ := p17
  have zw17 := c17.size
  refine sp rfl (px_pick rfl rfl) ?_
  refine wl_nil (q_n (k14 _ _ ?_))
  refine sx_sub (Sub.c 2 rfl (.c 4 rfl (.c 5 rfl (.c 29 rfl .nil)))) ?_
  refine sx_condB rfl (fun h47x1 => ?_) (fun h47x1 => ?_)
  ·
   try rw [cmpL_dg] at h47x1
   try simp only [Decidable.not_not] at h47x1
   have e := rq_up (x := x) (d := d) (m := m) (len_pos.1 (by omega)) h47x1
   refine sx_region ?_
   refine mv rfl rfl ?_
   refine sx_lit1 rfl xelt26 rfl rfl (fun s18 ws18 ss18 fs18 cs18 => ?_)
   have ns18 := Own.norm (f := (Value.int .i64)) (zs := [1]) fs18
   have zws18 := cs18.size
   have f20 := (os_12.ext c17).ext cs18
   refine sx_call rfl rfl Tryz.call152 (c_l02Add1 f20 ns18.sv (by omega) (rfl)) (fun v21 w21 p21 => ?_)
   obtain ⟨s21, rfl, os_21, c21⟩ := p21
   have zw21 := c21.size
   refine av rfl rfl (wl_nil (q_n (k13 _ _ ?_)))
   refine sx_seq fun K22 k22 => sx_region ?_
   refine sp rfl (px_field rfl xfld30x0) ?_
   refine sp rfl (px_field rfl xfld28x0) ?_
   have f24 := (f15.ext c17).ext cs18
   have f25 := f24.ext c21
   refine sp rfl (px_load rfl (f25.load1 rfl Tryz.isAgg4)) ?_
   refine mv rfl rfl (sx_call rfl rfl Tryz.call70 (c_l04Make os_21 (by rw [← e]; exact Nat.le_trans (rq_len hbx) (by omega))) (fun v26 w26 p26 => ?_))
   obtain ⟨s26, rfl, os_26, c26⟩ := p26
   have zw26 := c26.size
   have f30 := ((fb4.ext c12).ext c17).ext cs18
   have f32 := (f30.ext c21).ext c26
   refine sx_store (vs := [.bool (ng (capI (ng x) ((x.natAbs / d) + 1))), s26]) rfl rfl f32 rfl Tryz.sizeOf28 (nbl rfl) (one_cons rfl (one_cons os_26.one one_nil)) (fun w27 sw27 fw27 cw27 => ?_)
   have zw27 := cw27.size
   have gw27 : Blk w27 b4 [.bool (ng (capI (ng x) ((x.natAbs / d) + 1))), s26] 28 := fw27
   refine wl_nil (q_n (k22 _ _ ?_))
   refine sx_retc ?_
   refine sx_ret1 Tryz.results147 ⟨_, rfl, gw27.loadA (vs := [.bool (ng (capI (ng x) ((x.natAbs / d) + 1))), s26]) (look_lit rfl) Tryz.isAgg28 Tryz.sizeOf28⟩ ?_
   have hcs : capI (ng x) ((x.natAbs / d) + 1) = rqI x d m := by rw [capI_sgI (by rw [← e]; exact rq_len hbx), ← e]; rfl
   rw [← hcs]
   have q33 := Chg.step (l := 0) (h := 0) (Chg.zero (l := 0) (h := 0) ((((((cb2.t cb4).t c12).t c17).t cs18).t c21).t c26)) cw27 (by omega)
   have f34 := os_26.chg cw27 (by omega)
   exact ⟨_, rfl, (Own.mono f34 (by omega) (by omega)), q33⟩
  try rw [cmpL_dg] at h47x1
  try simp only [Decidable.not_not] at h47x1
  have e := rq_dn (x := x) (d := d) (m := m) (fun hh => by have h9 := hh.2; rw [h47x1] at h9; cases h9)
  refine sx_skip ?_
  refine q_n (k13 _ _ ?_)
  refine sx_seq fun K35 k35 => sx_region ?_
  refine sp rfl (px_field rfl xfld30x0) ?_
  refine sp rfl (px_field rfl xfld28x0) ?_
  have f36 := f15.ext c17
  refine sp rfl (px_load rfl (f36.load1 rfl Tryz.isAgg4)) ?_
  refine mv rfl rfl ?_
  have f37 := os_12.ext c17
  refine sx_call rfl rfl Tryz.call70 (c_l04Make f37 (by rw [← e]; exact Nat.le_trans (rq_len hbx) (by omega))) (fun v38 w38 p38 => ?_)
  obtain ⟨s38, rfl, os_38, c38⟩ := p38
  have zw38 := c38.size
  have f42 := ((fb4.ext c12).ext c17).ext c38
  refine sx_store (vs := [.bool (ng (capI (ng x) (x.natAbs / d))), s38]) rfl rfl f42 rfl Tryz.sizeOf28 (nbl rfl) (one_cons rfl (one_cons os_38.one one_nil)) (fun w39 sw39 fw39 cw39 => ?_)
  have zw39 := cw39.size
  have gw39 : Blk w39 b4 [.bool (ng (capI (ng x) (x.natAbs / d))), s38] 28 := fw39
  refine wl_nil (q_n (k35 _ _ ?_))
  refine sx_retc ?_
  refine sx_ret1 Tryz.results147 ⟨_, rfl, gw39.loadA (vs := [.bool (ng (capI (ng x) (x.natAbs / d))), s38]) (look_lit rfl) Tryz.isAgg28 Tryz.sizeOf28⟩ ?_
  have hcs : capI (ng x) (x.natAbs / d) = rqI x d m := by rw [capI_sgI (by rw [← e]; exact rq_len hbx), ← e]; rfl
  rw [← hcs]
  have q43 := Chg.step (l := 0) (h := 0) (Chg.zero (l := 0) (h := 0) ((((cb2.t cb4).t c12).t c17).t c38)) cw39 (by omega)
  have f44 := os_38.chg cw39 (by omega)
  exact ⟨_, rfl, (Own.mono f44 (by omega) (by omega)), q43⟩
 have e := rq_dn (x := x) (d := d) (m := m) (fun hh => by have h9 := len_pos.2 hh.1; omega)
 refine sx_guardF rfl rfl rfl rfl rfl rfl ?_
 refine sx_guardF rfl rfl rfl rfl rfl rfl ?_
 refine sx_guardF rfl rfl rfl rfl rfl rfl ?_
 refine sx_guardF rfl rfl rfl rfl rfl rfl ?_
 refine sx_guardF rfl rfl rfl rfl rfl rfl ?_
 refine sx_guardF rfl rfl rfl rfl rfl rfl ?_
 refine sx_guardF rfl rfl rfl rfl rfl rfl ?_
 refine sx_guardF rfl rfl rfl rfl rfl rfl ?_
 refine sx_guardF rfl rfl rfl rfl rfl rfl ?_
 refine sp rfl (px_pick rfl rfl) ?_
 refine wl_nil (q_n (k14 _ _ ?_))
 refine sx_sub (Sub.c 2 rfl (.c 4 rfl (.c 5 rfl (.c 29 rfl .nil)))) ?_
 refine sx_condF rfl ?_
 refine sx_skip ?_
 refine q_n (k13 _ _ ?_)
 refine sx_seq fun K45 k45 => sx_region ?_
 refine sp rfl (px_field rfl xfld30x0) ?_
 refine sp rfl (px_field rfl xfld28x0) ?_
 have f46 := f7.ext c12
 refine sp rfl (px_load rfl (f46.load1 rfl Tryz.isAgg4)) ?_
 refine mv rfl rfl (sx_call rfl rfl Tryz.call70 (c_l04Make os_12 (by rw [← e]; exact Nat.le_trans (rq_len hbx) (by omega))) (fun v47 w47 p47 => ?_))
 obtain ⟨s47, rfl, os_47, c47⟩ := p47
 have zw47 := c47.size
 have f50 := (fb4.ext c12).ext c47
 refine sx_store (vs := [.bool (ng (capI (ng x) (x.natAbs / d))), s47]) rfl rfl f50 rfl Tryz.sizeOf28 (nbl rfl) (one_cons rfl (one_cons os_47.one one_nil)) (fun w48 sw48 fw48 cw48 => ?_)
 have zw48 := cw48.size
 have gw48 : Blk w48 b4 [.bool (ng (capI (ng x) (x.natAbs / d))), s47] 28 := fw48
 refine wl_nil (q_n (k45 _ _ ?_))
 refine sx_retc ?_
 refine sx_ret1 Tryz.results147 ⟨_, rfl, gw48.loadA (vs := [.bool (ng (capI (ng x) (x.natAbs / d))), s47]) (look_lit rfl) Tryz.isAgg28 Tryz.sizeOf28⟩ ?_
 have hcs : capI (ng x) (x.natAbs / d) = rqI x d m := by rw [capI_sgI (by rw [← e]; exact rq_len hbx), ← e]; rfl
 rw [← hcs]
 have q51 := Chg.step (l := 0) (h := 0) (Chg.zero (l := 0) (h := 0) (((cb2.t cb4).t c12).t c47)) cw48 (by omega)
 have f52 := os_47.chg cw48 (by omega)
 exact ⟨_, rfl, (Own.mono f52 (by omega) (by omega)), q51⟩

theorem c_sRatRound {w : World} {n1 : Bool} {v1 : Value} {lv1 uv1 : Nat} {z1 : List Int} {d1 : Value} {ld1 ud1 : Nat} {y1 : List Int} {m : Int} (hv1 : Sl w lv1 uv1 v1 (z1)) (hd1 : Sl w ld1 ud1 d1 (y1)) (h63 : z1.length ≤ 4611686018427387904 ∧ y1.length ≤ 4611686018427387904) :
  Ret Tryz.prog 128 [.agg #[.bool n1, v1, d1], .int .i64 m] w fun v w' => ∃ s, v = .tuple #[.agg #[.bool ((rRound n1 z1 y1 m).1), s], .bool ((rRound n1 z1 y1 m).2.2)] ∧ OwnI w' w.heap.size w'.heap.size s intT ((rRound n1 z1 y1 m).2.1) ∧ ((rRound n1 z1 y1 m).2.1.length ≤ 19) ∧ Chg 0 0 w w' := by
 have hv10 := hv1.fit
 have hd10 := hd1.fit
 refine sx_enter Tryz.func128 rfl Tryz.ntmps128 (nbl rfl) ?_
 refine sx_seq fun K1 k1 => sx_region ?_
 refine sx_box [.bool n1, v1, d1] rfl rfl rfl (fun b2 w3 eb2 sb2 fb2 cb2 => ?_)
 have zw3 := cb2.size
 refine sx_alloc [.bool false, (.slice none 0 0)] rfl Tryz.zeroValue28 rfl (fun b4 w5 eb4 sb4 fb4 cb4 => ?_)
 have zw5 := cb4.size
 refine av rfl rfl (wl_nil (q_n (k1 _ _ ?_)))
 refine sx_seq fun K6 k6 => ?_
 refine sx_seq fun K7 k7 => sx_region ?_
 have f8 := fb2.ext cb4
 refine sp rfl (px_load rfl (f8.loadA (vs := [.bool n1, v1, d1]) (look_lit rfl) Tryz.isAgg30 Tryz.sizeOf30)) ?_
 have f9 := hv10.ext cb2
 have f10 := f9.ext cb4
 have f11 := hd10.ext cb2
 have f12 := f11.ext cb4
 refine sx_call rfl rfl Tryz.call74 (c_sRatOk f10 f12 (by omega)) (fun v13 w13 p13 => ?_)
 obtain ⟨rfl, c13⟩ := p13
 have zw13 := c13.size
 refine sp rfl (px_notP rfl) ?_
 refine mv rfl rfl ?_
 refine sx_tmpP (t := 9) rfl (fun h55 => ?_) (fun h55 => ?_)
 ·
  refine sx_guardF rfl rfl rfl rfl rfl rfl ?_
  refine sx_guardF rfl rfl rfl rfl rfl rfl ?_
  refine sx_guardF rfl rfl rfl rfl rfl rfl ?_
  refine sp rfl (px_pick rfl rfl) ?_
  refine wl_nil (q_n (k7 _ _ ?_))
  refine sx_condT rfl ?_
  refine sx_seq fun K14 k14 => sx_region ?_
  refine sp rfl (px_build rfl (xbld28x  _)) ?_
  have f16 := fb4.ext c13
  refine sx_store (vs := [.bool false, (.slice none 0 0)]) rfl rfl f16 rfl Tryz.sizeOf28 (nbl rfl) (o2 rfl rfl) (fun w15 sw15 fw15 cw15 => ?_)
  have zw15 := cw15.size
  have gw15 : Blk w15 b4 [.bool false, (.slice none 0 0)] 28 := fw15
  refine av rfl rfl (wl_nil (q_n (k14 _ _ ?_)))
  refine sx_retc ?_
  refine q_r (sx_ret2 Tryz.results128 ⟨_, rfl, gw15.loadA (vs := [.bool false, (.slice none 0 0)]) (look_lit rfl) Tryz.isAgg28 Tryz.sizeOf28⟩ rfl ?_)
  rw [rRound_no (by grind)]
  have q17 := Chg.step (l := 0) (h := 0) (Chg.zero (l := 0) (h := 0) ((cb2.t cb4).t c13)) cw15 (by omega)
  exact ⟨_, rfl, Own.nil _ _ _ _ _, by simp [noS], q17⟩
 refine sx_guardT rfl rfl rfl ?_
 refine mv rfl rfl ?_
 refine sx_guardT rfl rfl rfl ?_
 refine sx_call rfl rfl Tryz.call146 (c_l06Mode) (fun v18 w18 p18 => ?_)
 obtain ⟨rfl, c18⟩ := p18
 have zw18 := c18.size
 refine sx_guardT rfl rfl rfl ?_
 refine sp rfl (px_notP rfl) ?_
 refine sp rfl (px_pick rfl rfl) ?_
 refine wl_nil (q_n (k7 _ _ ?_))
 refine sx_condP rfl (fun h55x1 => ?_) (fun h55x1 => ?_)
 ·
  refine sx_seq fun K19 k19 => sx_region ?_
  refine sp rfl (px_build rfl (xbld28x  _)) ?_
  have f22 := (fb4.ext c13).ext c18
  refine sx_store (vs := [.bool false, (.slice none 0 0)]) rfl rfl f22 rfl Tryz.sizeOf28 (nbl rfl) (o2 rfl rfl) (fun w20 sw20 fw20 cw20 => ?_)
  have zw20 := cw20.size
  have gw20 : Blk w20 b4 [.bool false, (.slice none 0 0)] 28 := fw20
  refine av rfl rfl (wl_nil (q_n (k19 _ _ ?_)))
  refine sx_retc ?_
  refine q_r (sx_ret2 Tryz.results128 ⟨_, rfl, gw20.loadA (vs := [.bool false, (.slice none 0 0)]) (look_lit rfl) Tryz.isAgg28 Tryz.sizeOf28⟩ rfl ?_)
  rw [rRound_no (by grind)]
  have q23 := Chg.step (l := 0) (h := 0) (Chg.zero (l := 0) (h := 0) (((cb2.t cb4).t c13).t c18)) cw20 (by omega)
  exact ⟨_, rfl, Own.nil _ _ _ _ _, by simp [noS], q23⟩
 have hR := Decidable.not_not.1 h55
 have hM := Decidable.not_not.1 h55x1
 obtain ⟨x1, e1, rfl, rfl, rfl, he0, hx1, he1, hg1⟩ := hR.rat
 refine sx_skip ?_
 refine q_n (k6 _ _ ?_)
 refine sx_seq fun K24 k24 => sx_region ?_
 have f26 := (f8.ext c13).ext c18
 refine sp rfl (px_load rfl (f26.loadA (vs := [.bool (ng x1), v1, d1]) (look_lit rfl) Tryz.isAgg30 Tryz.sizeOf30)) ?_
 refine mv rfl rfl ?_
 have f28 := (f10.ext c13).ext c18
 have f30 := (f12.ext c13).ext c18
 refine sx_call rfl rfl Tryz.call147 (c_l06Round f28 f30 (by omega) (by omega) (by omega) (by omega)) (fun v31 w31 p31 => ?_)
 obtain ⟨s31, rfl, os_31, c31⟩ := p31
 have zw31 := c31.size
 have f35 := ((fb4.ext c13).ext c18).ext c31
 refine sx_store (vs := [.bool (ng (rqI x1 e1 m)), s31]) rfl rfl f35 rfl Tryz.sizeOf28 (nbl rfl) (one_cons rfl (one_cons os_31.one one_nil)) (fun w32 sw32 fw32 cw32 => ?_)
 have zw32 := cw32.size
 have gw32 : Blk w32 b4 [.bool (ng (rqI x1 e1 m)), s31] 28 := fw32
 refine av rfl rfl (wl_nil (q_n (k24 _ _ ?_)))
 refine sx_sub (Sub.c 4 rfl (.c 5 rfl .nil)) ?_
 refine sx_retc ?_
 refine sx_ret2 Tryz.results128 ⟨_, rfl, gw32.loadA (vs := [.bool (ng (rqI x1 e1 m)), s31]) (look_lit rfl) Tryz.isAgg28 Tryz.sizeOf28⟩ rfl ?_
 have hrl := rRound_len (n := ng x1) (z := dg x1.natAbs) (y := dg e1) (m := m)
 rw [rRound_ok ⟨hR, hM⟩] at hrl ⊢
 have q36 := Chg.step (l := 0) (h := 0) (Chg.zero (l := 0) (h := 0) ((((cb2.t cb4).t c13).t c18).t c31)) cw32 (by omega)
 have f37 := os_31.chg cw32 (by omega)
 exact ⟨_, rfl, (Own.mono f37 (by omega) (by omega)), hrl, q36⟩

theorem c_IntNeg {w : World} {va : Value} {lva uva : Nat} {x : Int} (hva : Sl w lva uva va (dg x.natAbs)) (hbx : (dg x.natAbs).length ≤ 50) :
  Ret Tryz.prog 153 [.agg #[.bool (ng x), va]] w fun v w' => ∃ s, v = .agg #[.bool (ng (-x)), s] ∧ OwnI w' w.heap.size w'.heap.size s intT (dg (-x).natAbs) ∧ Chg 0 0 w w' := by
 have hva0 := hva.fit
 refine sx_enter Tryz.func153 rfl Tryz.ntmps153 (nbl rfl) ?_
 refine sx_seq fun K1 k1 => sx_region ?_
 refine sx_box [.bool (ng x), va] rfl rfl rfl (fun b2 w3 eb2 sb2 fb2 cb2 => ?_)
 have zw3 := cb2.size
 refine sx_alloc [.bool false, (.slice none 0 0)] rfl Tryz.zeroValue28 rfl (fun b4 w5 eb4 sb4 fb4 cb4 => ?_)
 have zw5 := cb4.size
 refine wl_nil (q_n (k1 _ _ ?_))
 refine sx_seq fun K6 k6 => ?_
 refine sx_seq fun K7 k7 => sx_region ?_
 have f8 := fb2.ext cb4
 refine sp rfl (px_load rfl (f8.loadA (vs := [.bool (ng x), va]) (look_lit rfl) Tryz.isAgg28 Tryz.sizeOf28)) ?_
 have f9 := hva0.ext cb2
 have f10 := f9.ext cb4
 refine sx_call rfl rfl Tryz.call95 (c_sIntOk f10 (by omega)) (fun v11 w11 p11 => ?_)
 obtain ⟨rfl, c11⟩ := p11
 have zw11 := c11.size
 refine sp rfl (px_notP rfl) ?_
 refine wl_nil (q_n (k7 _ _ ?_))
 have h38 : ¬ (¬ (IOk (ng x) (dg x.natAbs))) := by first | exact fun h => h (IOk_ng (by omega)) | exact fun h => h (IOk_ng (by assumption))
 refine sx_condPF rfl h38 ?_
 refine sx_skip ?_
 refine q_n (k6 _ _ ?_)
 refine sx_seq fun K12 k12 => sx_region ?_
 refine sp rfl (px_field rfl xfld28x0) ?_
 have f13 := f8.ext c11
 refine sp rfl (px_load rfl (f13.load1 rfl Tryz.isAgg4)) ?_
 refine sp rfl (px_not rfl) ?_
 refine sp rfl (px_field rfl xfld28x1) ?_
 refine sp rfl (px_load rfl (f13.load1 rfl Tryz.isAgg26)) ?_
 have f14 := f10.ext c11
 refine sx_call rfl rfl Tryz.call70 (c_l04Make f14 (by omega)) (fun v15 w15 p15 => ?_)
 obtain ⟨s15, rfl, os_15, c15⟩ := p15
 have zw15 := c15.size
 have f18 := (fb4.ext c11).ext c15
 refine sx_store (vs := [.bool (ng (capI (!(ng x)) x.natAbs)), s15]) rfl rfl f18 rfl Tryz.sizeOf28 (nbl rfl) (one_cons rfl (one_cons os_15.one one_nil)) (fun w16 sw16 fw16 cw16 => ?_)
 have zw16 := cw16.size
 have gw16 : Blk w16 b4 [.bool (ng (capI (!(ng x)) x.natAbs)), s15] 28 := fw16
 refine wl_nil (q_n (k12 _ _ ?_))
 refine sx_retc ?_
 refine sx_ret1 Tryz.results153 ⟨_, rfl, gw16.loadA (vs := [.bool (ng (capI (!(ng x)) x.natAbs)), s15]) (look_lit rfl) Tryz.isAgg28 Tryz.sizeOf28⟩ ?_
 have hq := capI_of (neg_sg x)
 rw [cap_ok (by rw [Int.natAbs_neg]; exact hbx)] at hq
 rw [← hq]
 have q19 := Chg.step (l := 0) (h := 0) (Chg.zero (l := 0) (h := 0) (((cb2.t cb4).t c11).t c15)) cw16 (by omega)
 have f20 := os_15.chg cw16 (by omega)
 exact ⟨_, rfl, (Own.mono f20 (by omega) (by omega)), q19⟩

theorem c_sRatNeg {w : World} {n1 : Bool} {v1 : Value} {lv1 uv1 : Nat} {z1 : List Int} {d1 : Value} {ld1 ud1 : Nat} {y1 : List Int} (hv1 : Sl w lv1 uv1 v1 (z1)) (hd1 : Sl w ld1 ud1 d1 (y1)) (h63 : z1.length ≤ 4611686018427387904 ∧ y1.length ≤ 4611686018427387904) :
  Ret Tryz.prog 148 [.agg #[.bool n1, v1, d1]] w fun v w' => ∃ s t ls us lt ut, v = .tuple #[.agg #[.bool ((rNeg n1 z1 y1).1), s, t], .bool ((rNeg n1 z1 y1).2.2.2)] ∧ OwnI w' (ls) (us) s intT ((rNeg n1 z1 y1).2.1) ∧ OwnI w' (lt) (ut) t intT ((rNeg n1 z1 y1).2.2.1) ∧ (w.heap.size ≤ ls ∧ us ≤ w'.heap.size ∧ w.heap.size ≤ lt ∧ ut ≤ w'.heap.size ∧ (us ≤ lt ∨ ut ≤ ls)) ∧ ((rNeg n1 z1 y1).2.1.length ≤ 18 ∧ (rNeg n1 z1 y1).2.2.1.length ≤ 18) ∧ Chg 0 0 w w' := by
 have hv10 := hv1.fit
 have hd10 := hd1.fit
 refine sx_enter Tryz.func148 rfl Tryz.ntmps148 (nbl rfl) ?_
 refine sx_seq fun K1 k1 => sx_region ?_
 refine sx_box [.bool n1, v1, d1] rfl rfl rfl (fun b2 w3 eb2 sb2 fb2 cb2 => ?_)
 have zw3 := cb2.size
 refine sx_alloc [.bool false, (.slice none 0 0), (.slice none 0 0)] rfl Tryz.zeroValue30 rfl (fun b4 w5 eb4 sb4 fb4 cb4 => ?_)
 have zw5 := cb4.size
 refine av rfl rfl (wl_nil (q_n (k1 _ _ ?_)))
 refine sx_seq fun K6 k6 => ?_
 refine sx_seq fun K7 k7 => sx_region ?_
 have f8 := fb2.ext cb4
 refine sp rfl (px_load rfl (f8.loadA (vs := [.bool n1, v1, d1]) (look_lit rfl) Tryz.isAgg30 Tryz.sizeOf30)) ?_
 have f9 := hv10.ext cb2
 have f10 := f9.ext cb4
 have f11 := hd10.ext cb2
 have f12 := f11.ext cb4
 refine sx_call rfl rfl Tryz.call74 (c_sRatOk f10 f12 (by omega)) (fun v13 w13 p13 => ?_)
 obtain ⟨rfl, c13⟩ := p13
 have zw13 := c13.size
 refine sp rfl (px_notP rfl) ?_
 refine wl_nil (q_n (k7 _ _ ?_))
 refine sx_condP rfl (fun h67 => ?_) (fun h67 => ?_)
 ·
  refine sx_seq fun K14 k14 => sx_region ?_
  refine sp rfl (px_build rfl (xbld30x  _)) ?_
  have f16 := fb4.ext c13
  refine sx_store (vs := [.bool false, (.slice none 0 0), (.slice none 0 0)]) rfl rfl f16 rfl Tryz.sizeOf30 (nbl rfl) (o3 rfl rfl rfl) (fun w15 sw15 fw15 cw15 => ?_)
  have zw15 := cw15.size
  have gw15 : Blk w15 b4 [.bool false, (.slice none 0 0), (.slice none 0 0)] 30 := fw15
  refine av rfl rfl (wl_nil (q_n (k14 _ _ ?_)))
  refine sx_retc ?_
  refine q_r (sx_ret2 Tryz.results148 ⟨_, rfl, gw15.loadA (vs := [.bool false, (.slice none 0 0), (.slice none 0 0)]) (look_lit rfl) Tryz.isAgg30 Tryz.sizeOf30⟩ rfl ?_)
  rw [rNeg_no h67]
  have q17 := Chg.step (l := 0) (h := 0) (Chg.zero (l := 0) (h := 0) ((cb2.t cb4).t c13)) cw15 (by omega)
  exact ⟨_, _, w.heap.size, w.heap.size, w.heap.size, w.heap.size, rfl, Own.nil _ _ _ _ _, Own.nil _ _ _ _ _, by omega, ⟨by simp [noR], by simp [noR]⟩, q17⟩
 have hR := Decidable.not_not.1 h67
 obtain ⟨x1, e1, rfl, rfl, rfl, hp1, hx1, hy1, hg1⟩ := hR.rat
 refine sx_skip ?_
 refine q_n (k6 _ _ ?_)
 refine sx_seq fun K18 k18 => ?_
 refine sx_cut k18 (fun fr w' => ∃ (gs19x0 : Value) (gl19x0 : Nat) (gu19x0 : Nat) (gs19x1 : Value) (gl19x1 : Nat) (gu19x1 : Nat), fr = [(2, .pointer (some ⟨b4, 0, none⟩)), (3, .bool true)] ∧ Chg b4 (b4 + 1) w13 w' ∧ (Own w' gl19x0 gu19x0 gs19x0 intT ((dg (-x1).natAbs).length) 1 ((dg (-x1).natAbs).map (Value.int .i64))) ∧ (Own w' gl19x1 gu19x1 gs19x1 3 ((dg e1).length) 1 ((dg e1).map (Value.int .i64))) ∧ (Blk w' b4 [.bool (ng (-x1)), gs19x0, gs19x1] 30) ∧ (w13.heap.size ≤ gl19x0 ∧ gu19x0 ≤ w'.heap.size) ∧ (w13.heap.size ≤ gl19x1 ∧ gu19x1 ≤ w'.heap.size) ∧ (gu19x1 ≤ gl19x0 ∨ gu19x0 ≤ gl19x1)) (fun kc19 => ?_) ?_
 ·
  have f20 := f8.ext c13
  have f21 := f10.ext c13
  have f22 := f12.ext c13
  refine dx_region (fun w' => Chg b4 (b4 + 1) w13 w') (by kernel_rfl) (Chg.zero (Chg.drew _)) ?_
  have d23 := Chg.drew w13
  have s23 : Chg b4 (b4 + 1) w13 (World.drew w13) := Chg.zero (Chg.drew _)
  have y23 : (World.drew w13).heap.size = w13.heap.size := rfl
  generalize World.drew w13 = w23 at *
  have zw23 := d23.size
  refine dt 0 rfl rfl rfl rfl s23 (fun _ hS => px_field rfl xfld30x0) ?_
  refine dt 1 rfl rfl rfl rfl s23 (fun _ hS => px_load rfl ((f20.chg hS (by omega)).loadA (vs := [.bool (ng x1), v1]) (look_lit rfl) Tryz.isAgg28 Tryz.sizeOf28)) ?_
  refine dt 4 rfl rfl rfl rfl s23 (fun _ hS => px_field rfl xfld30x1) ?_
  refine dt 5 rfl rfl rfl rfl s23 (fun _ hS => px_load rfl ((f20.chg hS (by omega)).load1 rfl Tryz.isAgg26)) ?_
  refine dx_eff2 2 3 rfl rfl (by kernel_rfl) ?_ ?_
  ·
   have f24 := f21.ext d23
   refine sx_call rfl rfl Tryz.call153 (c_IntNeg f24 (by omega)) (fun v25 w25 p25 => ?_)
   obtain ⟨s25, rfl, os_25, c25⟩ := p25
   have zw25 := c25.size
   have s26 : Chg b4 (b4 + 1) w13 w25 := (Chg.zero (l := b4) (h := (b4 + 1)) (d23.t c25))
   refine wl_nil ?_
   refine dx_next s26 ?_
   refine dx_eff 3 rfl (by kernel_rfl) ?_
   refine sx_lit0 rfl xelt26 (fun s27 ws27 ss27 fs27 cs27 => ?_)
   have zws27 := cs27.size
   have s28 : Chg b4 (b4 + 1) w13 ws27 := (Chg.zero (l := b4) (h := (b4 + 1)) ((d23.t c25).t cs27))
   refine wl_nil ?_
   refine dx_next s28 ?_
   refine dx_eff 6 rfl (by kernel_rfl) ?_
   have f32 := ((f22.ext d23).ext c25).ext cs27
   refine sx_append2 rfl xelt26 rfl rfl fs27 f32 (len_pos.2 hp1) one_int (by omega) (by first | omega | (simp only [List.length_nil]; omega)) (by unfold maxLen; first | omega | (simp only [List.length_nil]; omega)) (fun a29 w29 alw29 ahw29 adw29 fw29 cw29 => ?_)
   have nw29 := Own.norm (f := (Value.int .i64)) (zs := dg e1) fw29
   have zw29 := cw29.size
   have q34 := Chg.step (l := b4) (h := (b4 + 1)) (Chg.zero (l := b4) (h := (b4 + 1)) ((d23.t c25).t cs27)) cw29 (by omega)
   have s33 : Chg b4 (b4 + 1) w13 w29 := q34
   refine wl_nil ?_
   refine dx_next s33 ?_
   refine dt 7 rfl rfl rfl rfl s33 (fun _ hS => px_build rfl (xbld30x0x1 nw29.one _)) ?_
   refine dx_eff 8 rfl (by kernel_rfl) ?_
   have f39 := (((fb4.ext c13).ext d23).ext c25).ext cs27
   have f40 := f39.chg cw29 (by omega)
   have f41 := os_25.ext cs27
   have f42 := f41.chg cw29 (by omega)
   refine sx_store (vs := [.bool (ng (-x1)), s25, a29]) rfl rfl f40 rfl Tryz.sizeOf30 (nbl rfl) (one_cons rfl (one_cons f42.one (one_cons nw29.one one_nil))) (fun w35 sw35 fw35 cw35 => ?_)
   have zw35 := cw35.size
   have gw35 : Blk w35 b4 [.bool (ng (-x1)), s25, a29] 30 := fw35
   have q44 := Chg.step (l := b4) (h := (b4 + 1)) (Chg.zero (l := b4) (h := (b4 + 1)) ((d23.t c25).t cs27)) cw29 (by omega)
   have q45 := Chg.step (l := b4) (h := (b4 + 1)) q44 cw35 (by omega)
   have s43 : Chg b4 (b4 + 1) w13 w35 := q45
   refine wl_nil ?_
   refine dx_next s43 ?_
   refine dt 9 rfl rfl rfl rfl s43 (fun _ hS => px_assign rfl) ?_
   refine dx_done (by kernel_rfl) ?_
   have f46 := f42.chg cw35 (by omega)
   have f47 := nw29.chg cw35 (by omega)
   have q48 := Chg.step (l := b4) (h := (b4 + 1)) (Chg.zero (l := b4) (h := (b4 + 1)) ((d23.t c25).t cs27)) cw29 (by omega)
   have q49 := Chg.step (l := b4) (h := (b4 + 1)) q48 cw35 (by omega)
   exact q_n (kw_sub (Sub.c 2 rfl (.c 3 rfl .nil)) (kc19 _ _ ⟨s25, w23.heap.size, w25.heap.size, a29, alw29, ahw29, rfl, q49, f46, f47, gw35, by omega, by omega, by omega⟩))
  refine sx_lit0 rfl xelt26 (fun s50 ws50 ss50 fs50 cs50 => ?_)
  have zws50 := cs50.size
  have s51 : Chg b4 (b4 + 1) w13 ws50 := (Chg.zero (l := b4) (h := (b4 + 1)) (d23.t cs50))
  refine wl_nil ?_
  refine dx_next s51 ?_
  refine dx_eff 2 rfl (by kernel_rfl) ?_
  have f53 := (f21.ext d23).ext cs50
  refine sx_call rfl rfl Tryz.call153 (c_IntNeg f53 (by omega)) (fun v54 w54 p54 => ?_)
  obtain ⟨s54, rfl, os_54, c54⟩ := p54
  have zw54 := c54.size
  have s55 : Chg b4 (b4 + 1) w13 w54 := (Chg.zero (l := b4) (h := (b4 + 1)) ((d23.t cs50).t c54))
  refine wl_nil ?_
  refine dx_next s55 ?_
  refine dx_eff 6 rfl (by kernel_rfl) ?_
  have f57 := fs50.ext c54
  have f59 := (f22.ext d23).ext cs50
  have f60 := f59.ext c54
  refine sx_append2 rfl xelt26 rfl rfl f57 f60 (len_pos.2 hp1) one_int (by omega) (by first | omega | (simp only [List.length_nil]; omega)) (by unfold maxLen; first | omega | (simp only [List.length_nil]; omega)) (fun a56 w56 alw56 ahw56 adw56 fw56 cw56 => ?_)
  have nw56 := Own.norm (f := (Value.int .i64)) (zs := dg e1) fw56
  have zw56 := cw56.size
  have q62 := Chg.step (l := b4) (h := (b4 + 1)) (Chg.zero (l := b4) (h := (b4 + 1)) ((d23.t cs50).t c54)) cw56 (by omega)
  have s61 : Chg b4 (b4 + 1) w13 w56 := q62
  refine wl_nil ?_
  refine dx_next s61 ?_
  refine dt 7 rfl rfl rfl rfl s61 (fun _ hS => px_build rfl (xbld30x0x1 nw56.one _)) ?_
  refine dx_eff 8 rfl (by kernel_rfl) ?_
  have f66 := ((fb4.ext c13).ext d23).ext cs50
  have f68 := (f66.ext c54).chg cw56 (by omega)
  have f69 := os_54.chg cw56 (by omega)
  refine sx_store (vs := [.bool (ng (-x1)), s54, a56]) rfl rfl f68 rfl Tryz.sizeOf30 (nbl rfl) (one_cons rfl (one_cons f69.one (one_cons nw56.one one_nil))) (fun w63 sw63 fw63 cw63 => ?_)
  have zw63 := cw63.size
  have gw63 : Blk w63 b4 [.bool (ng (-x1)), s54, a56] 30 := fw63
  have q71 := Chg.step (l := b4) (h := (b4 + 1)) (Chg.zero (l := b4) (h := (b4 + 1)) ((d23.t cs50).t c54)) cw56 (by omega)
  have q72 := Chg.step (l := b4) (h := (b4 + 1)) q71 cw63 (by omega)
  have s70 : Chg b4 (b4 + 1) w13 w63 := q72
  refine wl_nil ?_
  refine dx_next s70 ?_
  refine dt 9 rfl rfl rfl rfl s70 (fun _ hS => px_assign rfl) ?_
  refine dx_done (by kernel_rfl) ?_
  have f73 := f69.chg cw63 (by omega)
  have f74 := nw56.chg cw63 (by omega)
  have q75 := Chg.step (l := b4) (h := (b4 + 1)) (Chg.zero (l := b4) (h := (b4 + 1)) ((d23.t cs50).t c54)) cw56 (by omega)
  have q76 := Chg.step (l := b4) (h := (b4 + 1)) q75 cw63 (by omega)
  exact q_n (kw_sub (Sub.c 2 rfl (.c 3 rfl .nil)) (kc19 _ _ ⟨s54, ws50.heap.size, w54.heap.size, a56, alw56, ahw56, rfl, q76, f73, f74, gw63, by omega, by omega, by omega⟩))
 rintro fr w'19 ⟨gs19x0, gl19x0, gu19x0, gs19x1, gl19x1, gu19x1, rfl, cw'19, xgs19x0, xgs19x1, xb4, ygl19x0, ygl19x1, dgl19x1xgl19x0⟩
 have zw'19 := cw'19.size
 refine sx_retc ?_
 refine sx_ret2 Tryz.results148 ⟨_, rfl, xb4.loadA (vs := [.bool (ng (-x1)), gs19x0, gs19x1]) (look_lit rfl) Tryz.isAgg30 Tryz.sizeOf30⟩ rfl ?_
 have hrl := rNeg_len (n := ng x1) (z := dg x1.natAbs) (y := dg e1)
 rw [rNeg_ok hR] at hrl ⊢
 have q77 := Chg.step (l := 0) (h := 0) (Chg.zero (l := 0) (h := 0) ((cb2.t cb4).t c13)) cw'19 (by omega)
 exact ⟨_, _, _, _, _, _, rfl, xgs19x0, xgs19x1, by omega, hrl, q77⟩

theorem c_l04Add {w : World} {va : Value} {lva uva : Nat} {x : Int} {vb : Value} {lvb uvb : Nat} {y : Int} (hva : Sl w lva uva va (dg x.natAbs)) (hvb : Sl w lvb uvb vb (dg y.natAbs)) (hbx : (dg x.natAbs).length ≤ 1000) (hby : (dg y.natAbs).length ≤ 1000) :
  Ret Tryz.prog 154 [.agg #[.bool (ng x), va], .agg #[.bool (ng y), vb]] w fun v w' => ∃ s, v = .agg #[.bool (ng (cap (x + y))), s] ∧ OwnI w' w.heap.size w'.heap.size s intT (dg (cap (x + y)).natAbs) ∧ Chg 0 0 w w' := by
 have hva0 := hva.fit
 have hvb0 := hvb.fit
 have l2 := len_add x.natAbs y.natAbs
 have l3 := len_le (Nat.sub_le x.natAbs y.natAbs)
 have l4 := len_le (Nat.sub_le y.natAbs x.natAbs)
 refine sx_enter Tryz.func154 rfl Tryz.ntmps154 (nbl rfl) ?_
 refine sx_seq fun K1 k1 => sx_region ?_
 refine sx_box [.bool (ng x), va] rfl rfl rfl (fun b2 w3 eb2 sb2 fb2 cb2 => ?_)
 have zw3 := cb2.size
 refine sx_box [.bool (ng y), vb] rfl rfl rfl (fun b4 w5 eb4 sb4 fb4 cb4 => ?_)
 have zw5 := cb4.size
 refine sx_alloc [.bool false, (.slice none 0 0)] rfl Tryz.zeroValue28 rfl (fun b6 w7 eb6 sb6 fb6 cb6 => ?_)
 have zw7 := cb6.size
 refine wl_nil (q_n (k1 _ _ ?_))
 refine sx_seq fun K8 k8 => ?_
 refine sx_seq fun K9 k9 => sx_region ?_
 refine sp rfl (px_field rfl xfld28x0) ?_
 have f10 := fb2.ext cb4
 have f11 := f10.ext cb6
 refine sp rfl (px_load rfl (f11.load1 rfl Tryz.isAgg4)) ?_
 refine sp rfl (px_field rfl xfld28x0) ?_
 have f12 := fb4.ext cb6
 refine sp rfl (px_load rfl (f12.load1 rfl Tryz.isAgg4)) ?_
 refine sp rfl (px_eqB Tryz.underlying4 rfl rfl) ?_
 refine wl_nil (q_n (k9 _ _ ?_))
 refine sx_condB rfl (fun h53 => ?_) (fun h53 => ?_)
 ·
  refine sx_seq fun K13 k13 => ?_
  have f14 := hva0.ext cb2
  have f15 := f14.ext cb4
  have f16 := f15.ext cb6
  have f17 := hvb0.ext cb2
  have f18 := f17.ext cb4
  have f19 := f18.ext cb6
  refine dx_region (fun w' => Chg b6 (b6 + 1) w7 w') (by kernel_rfl) (Chg.zero (Chg.drew _)) ?_
  have d20 := Chg.drew w7
  have s20 : Chg b6 (b6 + 1) w7 (World.drew w7) := Chg.zero (Chg.drew _)
  have y20 : (World.drew w7).heap.size = w7.heap.size := rfl
  generalize World.drew w7 = w20 at *
  have zw20 := d20.size
  refine dt 0 rfl rfl rfl rfl s20 (fun _ hS => px_field rfl xfld28x0) ?_
  refine dt 1 rfl rfl rfl rfl s20 (fun _ hS => px_load rfl ((f11.chg hS (by omega)).load1 rfl Tryz.isAgg4)) ?_
  refine dt 2 rfl rfl rfl rfl s20 (fun _ hS => px_field rfl xfld28x1) ?_
  refine dt 3 rfl rfl rfl rfl s20 (fun _ hS => px_load rfl ((f11.chg hS (by omega)).load1 rfl Tryz.isAgg26)) ?_
  refine dt 4 rfl rfl rfl rfl s20 (fun _ hS => px_field rfl xfld28x1) ?_
  refine dt 5 rfl rfl rfl rfl s20 (fun _ hS => px_load rfl ((f12.chg hS (by omega)).load1 rfl Tryz.isAgg26)) ?_
  refine dx_eff 6 rfl (by kernel_rfl) ?_
  have f21 := f16.ext d20
  have f22 := f19.ext d20
  refine sx_call rfl rfl Tryz.call152 (c_l02Add f21 f22 (by omega) (by omega)) (fun v23 w23 p23 => ?_)
  obtain ⟨s23, rfl, os_23, c23⟩ := p23
  have zw23 := c23.size
  have s24 : Chg b6 (b6 + 1) w7 w23 := (Chg.zero (l := b6) (h := (b6 + 1)) (d20.t c23))
  refine wl_nil ?_
  refine dx_next s24 ?_
  refine dx_eff 7 rfl (by kernel_rfl) ?_
  refine sx_call rfl rfl Tryz.call70 (c_l04Make os_23 (by omega)) (fun v25 w25 p25 => ?_)
  obtain ⟨s25, rfl, os_25, c25⟩ := p25
  have zw25 := c25.size
  have s26 : Chg b6 (b6 + 1) w7 w25 := (Chg.zero (l := b6) (h := (b6 + 1)) ((d20.t c23).t c25))
  refine wl_nil ?_
  refine dx_next s26 ?_
  refine dx_eff 8 rfl (by kernel_rfl) ?_
  have f30 := ((fb6.ext d20).ext c23).ext c25
  refine sx_store (vs := [.bool (ng (capI (ng x) (x.natAbs + y.natAbs))), s25]) rfl rfl f30 rfl Tryz.sizeOf28 (nbl rfl) (one_cons rfl (one_cons os_25.one one_nil)) (fun w27 sw27 fw27 cw27 => ?_)
  have zw27 := cw27.size
  have gw27 : Blk w27 b6 [.bool (ng (capI (ng x) (x.natAbs + y.natAbs))), s25] 28 := fw27
  have q32 := Chg.step (l := b6) (h := (b6 + 1)) (Chg.zero (l := b6) (h := (b6 + 1)) ((d20.t c23).t c25)) cw27 (by omega)
  have s31 : Chg b6 (b6 + 1) w7 w27 := q32
  refine wl_nil ?_
  refine dx_next s31 ?_
  refine dx_done (by kernel_rfl) ?_
  refine q_n (k13 _ _ ?_)
  refine sx_sub (Sub.c 2 rfl (.c 3 rfl (.c 4 rfl .nil))) ?_
  refine sx_retc ?_
  refine q_r (sx_ret1 Tryz.results154 ⟨_, rfl, gw27.loadA (vs := [.bool (ng (capI (ng x) (x.natAbs + y.natAbs))), s25]) (look_lit rfl) Tryz.isAgg28 Tryz.sizeOf28⟩ ?_)
  have hq := capI_of (add_sg h53)
  rw [← hq]
  have q33 := Chg.step (l := 0) (h := 0) (Chg.zero (l := 0) (h := 0) (((((cb2.t cb4).t cb6).t d20).t c23).t c25)) cw27 (by omega)
  have f34 := os_25.chg cw27 (by omega)
  exact ⟨_, rfl, (Own.mono f34 (by omega) (by omega)), q33⟩
 refine sx_skip ?_
 refine q_n (k8 _ _ ?_)
 refine sx_seq fun K35 k35 => ?_
 refine sx_seq fun K36 k36 => sx_region ?_
 refine sp rfl (px_field rfl xfld28x1) ?_
 refine sp rfl (px_load rfl (f11.load1 rfl Tryz.isAgg26)) ?_
 refine sp rfl (px_field rfl xfld28x1) ?_
 refine sp rfl (px_load rfl (f12.load1 rfl Tryz.isAgg26)) ?_
 have f37 := hva0.ext cb2
 have f38 := f37.ext cb4
 have f39 := f38.ext cb6
 have f40 := hvb0.ext cb2
 have f41 := f40.ext cb4
 have f42 := f41.ext cb6
 refine sx_call rfl rfl Tryz.call111 (c_l02Cmp f39 f42 (by omega)) (fun v43 w43 p43 => ?_)
 obtain ⟨rfl, c43⟩ := p43
 have zw43 := c43.size
 refine sp rfl (px_ge rfl rfl) ?_
 refine wl_nil (q_n (k36 _ _ ?_))
 refine sx_sub (Sub.c 2 rfl (.c 3 rfl (.c 4 rfl (.c 23 rfl .nil)))) ?_
 refine sx_condP rfl (fun h56 => ?_) (fun h56 => ?_)
 ·
  rw [cmpL_dg] at h56
  have hge := cmpN_nonneg.1 h56
  refine sx_seq fun K44 k44 => ?_
  have f45 := f11.ext c43
  have f46 := f12.ext c43
  refine dx_region (fun w' => Chg b6 (b6 + 1) w43 w') (by kernel_rfl) (Chg.zero (Chg.drew _)) ?_
  have d49 := Chg.drew w43
  have s49 : Chg b6 (b6 + 1) w43 (World.drew w43) := Chg.zero (Chg.drew _)
  have y49 : (World.drew w43).heap.size = w43.heap.size := rfl
  generalize World.drew w43 = w49 at *
  have zw49 := d49.size
  refine dt 0 rfl rfl rfl rfl s49 (fun _ hS => px_field rfl xfld28x0) ?_
  refine dt 1 rfl rfl rfl rfl s49 (fun _ hS => px_load rfl ((f45.chg hS (by omega)).load1 rfl Tryz.isAgg4)) ?_
  refine dt 2 rfl rfl rfl rfl s49 (fun _ hS => px_field rfl xfld28x1) ?_
  refine dt 3 rfl rfl rfl rfl s49 (fun _ hS => px_load rfl ((f45.chg hS (by omega)).load1 rfl Tryz.isAgg26)) ?_
  refine dt 4 rfl rfl rfl rfl s49 (fun _ hS => px_field rfl xfld28x1) ?_
  refine dt 5 rfl rfl rfl rfl s49 (fun _ hS => px_load rfl ((f46.chg hS (by omega)).load1 rfl Tryz.isAgg26)) ?_
  refine dx_eff 6 rfl (by kernel_rfl) ?_
  have f50 := (f39.ext c43).ext d49
  have f51 := (f42.ext c43).ext d49
  refine sx_call rfl rfl Tryz.call142 (c_l02Sub f50 f51 (by omega) (by omega) (by omega)) (fun v52 w52 p52 => ?_)
  obtain ⟨s52, rfl, os_52, c52⟩ := p52
  have zw52 := c52.size
  have s53 : Chg b6 (b6 + 1) w43 w52 := (Chg.zero (l := b6) (h := (b6 + 1)) (d49.t c52))
  refine wl_nil ?_
  refine dx_next s53 ?_
  refine dx_eff 7 rfl (by kernel_rfl) ?_
  refine sx_call rfl rfl Tryz.call70 (c_l04Make os_52 (by omega)) (fun v54 w54 p54 => ?_)
  obtain ⟨s54, rfl, os_54, c54⟩ := p54
  have zw54 := c54.size
  have s55 : Chg b6 (b6 + 1) w43 w54 := (Chg.zero (l := b6) (h := (b6 + 1)) ((d49.t c52).t c54))
  refine wl_nil ?_
  refine dx_next s55 ?_
  refine dx_eff 8 rfl (by kernel_rfl) ?_
  have f60 := (((fb6.ext c43).ext d49).ext c52).ext c54
  refine sx_store (vs := [.bool (ng (capI (ng x) (x.natAbs - y.natAbs))), s54]) rfl rfl f60 rfl Tryz.sizeOf28 (nbl rfl) (one_cons rfl (one_cons os_54.one one_nil)) (fun w56 sw56 fw56 cw56 => ?_)
  have zw56 := cw56.size
  have gw56 : Blk w56 b6 [.bool (ng (capI (ng x) (x.natAbs - y.natAbs))), s54] 28 := fw56
  have q62 := Chg.step (l := b6) (h := (b6 + 1)) (Chg.zero (l := b6) (h := (b6 + 1)) ((d49.t c52).t c54)) cw56 (by omega)
  have s61 : Chg b6 (b6 + 1) w43 w56 := q62
  refine wl_nil ?_
  refine dx_next s61 ?_
  refine dx_done (by kernel_rfl) ?_
  refine q_n (k44 _ _ ?_)
  refine sx_retc ?_
  refine q_r (sx_ret1 Tryz.results154 ⟨_, rfl, gw56.loadA (vs := [.bool (ng (capI (ng x) (x.natAbs - y.natAbs))), s54]) (look_lit rfl) Tryz.isAgg28 Tryz.sizeOf28⟩ ?_)
  have hq := capI_of (sub_sg h53 hge)
  rw [← hq]
  have q63 := Chg.step (l := 0) (h := 0) (Chg.zero (l := 0) (h := 0) ((((((cb2.t cb4).t cb6).t c43).t d49).t c52).t c54)) cw56 (by omega)
  have f64 := os_54.chg cw56 (by omega)
  exact ⟨_, rfl, (Own.mono f64 (by omega) (by omega)), q63⟩
 rw [cmpL_dg] at h56
 have hlt := cmpN_neg.1 (Int.not_le.1 h56)
 refine sx_skip ?_
 refine q_n (k35 _ _ ?_)
 refine sx_seq fun K65 k65 => ?_
 have f66 := f11.ext c43
 have f67 := f12.ext c43
 refine dx_region (fun w' => Chg b6 (b6 + 1) w43 w') (by kernel_rfl) (Chg.zero (Chg.drew _)) ?_
 have d70 := Chg.drew w43
 have s70 : Chg b6 (b6 + 1) w43 (World.drew w43) := Chg.zero (Chg.drew _)
 have y70 : (World.drew w43).heap.size = w43.heap.size := rfl
 generalize World.drew w43 = w70 at *
 have zw70 := d70.size
 refine dt 0 rfl rfl rfl rfl s70 (fun _ hS => px_field rfl xfld28x0) ?_
 refine dt 1 rfl rfl rfl rfl s70 (fun _ hS => px_load rfl ((f67.chg hS (by omega)).load1 rfl Tryz.isAgg4)) ?_
 refine dt 2 rfl rfl rfl rfl s70 (fun _ hS => px_field rfl xfld28x1) ?_
 refine dt 3 rfl rfl rfl rfl s70 (fun _ hS => px_load rfl ((f67.chg hS (by omega)).load1 rfl Tryz.isAgg26)) ?_
 refine dt 4 rfl rfl rfl rfl s70 (fun _ hS => px_field rfl xfld28x1) ?_
 refine dt 5 rfl rfl rfl rfl s70 (fun _ hS => px_load rfl ((f66.chg hS (by omega)).load1 rfl Tryz.isAgg26)) ?_
 refine dx_eff 6 rfl (by kernel_rfl) ?_
 have f71 := (f42.ext c43).ext d70
 have f72 := (f39.ext c43).ext d70
 refine sx_call rfl rfl Tryz.call142 (c_l02Sub f71 f72 (by omega) (by omega) (by omega)) (fun v73 w73 p73 => ?_)
 obtain ⟨s73, rfl, os_73, c73⟩ := p73
 have zw73 := c73.size
 have s74 : Chg b6 (b6 + 1) w43 w73 := (Chg.zero (l := b6) (h := (b6 + 1)) (d70.t c73))
 refine wl_nil ?_
 refine dx_next s74 ?_
 refine dx_eff 7 rfl (by kernel_rfl) ?_
 refine sx_call rfl rfl Tryz.call70 (c_l04Make os_73 (by omega)) (fun v75 w75 p75 => ?_)
 obtain ⟨s75, rfl, os_75, c75⟩ := p75
 have zw75 := c75.size
 have s76 : Chg b6 (b6 + 1) w43 w75 := (Chg.zero (l := b6) (h := (b6 + 1)) ((d70.t c73).t c75))
 refine wl_nil ?_
 refine dx_next s76 ?_
 refine dx_eff 8 rfl (by kernel_rfl) ?_
 have f81 := (((fb6.ext c43).ext d70).ext c73).ext c75
 refine sx_store (vs := [.bool (ng (capI (ng y) (y.natAbs - x.natAbs))), s75]) rfl rfl f81 rfl Tryz.sizeOf28 (nbl rfl) (one_cons rfl (one_cons os_75.one one_nil)) (fun w77 sw77 fw77 cw77 => ?_)
 have zw77 := cw77.size
 have gw77 : Blk w77 b6 [.bool (ng (capI (ng y) (y.natAbs - x.natAbs))), s75] 28 := fw77
 have q83 := Chg.step (l := b6) (h := (b6 + 1)) (Chg.zero (l := b6) (h := (b6 + 1)) ((d70.t c73).t c75)) cw77 (by omega)
 have s82 : Chg b6 (b6 + 1) w43 w77 := q83
 refine wl_nil ?_
 refine dx_next s82 ?_
 refine dx_done (by kernel_rfl) ?_
 refine q_n (k65 _ _ ?_)
 refine sx_retc ?_
 refine sx_ret1 Tryz.results154 ⟨_, rfl, gw77.loadA (vs := [.bool (ng (capI (ng y) (y.natAbs - x.natAbs))), s75]) (look_lit rfl) Tryz.isAgg28 Tryz.sizeOf28⟩ ?_
 have hq := capI_of (sub_sg2 h53 (by omega))
 rw [← hq]
 have q84 := Chg.step (l := 0) (h := 0) (Chg.zero (l := 0) (h := 0) ((((((cb2.t cb4).t cb6).t c43).t d70).t c73).t c75)) cw77 (by omega)
 have f85 := os_75.chg cw77 (by omega)
 exact ⟨_, rfl, (Own.mono f85 (by omega) (by omega)), q84⟩

theorem c_sRatAdd {w : World} {n1 : Bool} {v1 : Value} {lv1 uv1 : Nat} {z1 : List Int} {d1 : Value} {ld1 ud1 : Nat} {y1 : List Int} {n2 : Bool} {v2 : Value} {lv2 uv2 : Nat} {z2 : List Int} {d2 : Value} {ld2 ud2 : Nat} {y2 : List Int} (hv1 : Sl w lv1 uv1 v1 (z1)) (hd1 : Sl w ld1 ud1 d1 (y1)) (hv2 : Sl w lv2 uv2 v2 (z2)) (hd2 : Sl w ld2 ud2 d2 (y2)) (h63 : z1.length ≤ 4611686018427387904 ∧ y1.length ≤ 4611686018427387904 ∧ z2.length ≤ 4611686018427387904 ∧ y2.length ≤ 4611686018427387904) :
  Ret Tryz.prog 149 [.agg #[.bool n1, v1, d1], .agg #[.bool n2, v2, d2]] w fun v w' => ∃ s t ls us lt ut, v = .tuple #[.agg #[.bool ((rAdd n1 z1 y1 n2 z2 y2).1), s, t], .bool ((rAdd n1 z1 y1 n2 z2 y2).2.2.2)] ∧ OwnI w' (ls) (us) s intT ((rAdd n1 z1 y1 n2 z2 y2).2.1) ∧ OwnI w' (lt) (ut) t intT ((rAdd n1 z1 y1 n2 z2 y2).2.2.1) ∧ (w.heap.size ≤ ls ∧ us ≤ w'.heap.size ∧ w.heap.size ≤ lt ∧ ut ≤ w'.heap.size ∧ (us ≤ lt ∨ ut ≤ ls)) ∧ ((rAdd n1 z1 y1 n2 z2 y2).2.1.length ≤ 18 ∧ (rAdd n1 z1 y1 n2 z2 y2).2.2.1.length ≤ 18) ∧ Chg 0 0 w w' := by
 have hv10 := hv1.fit
 have hd10 := hd1.fit
 have hv20 := hv2.fit
 have hd20 := hd2.fit
 refine sx_enter Tryz.func149 rfl Tryz.ntmps149 (nbl rfl) ?_
 refine sx_seq fun K1 k1 => sx_region ?_
 refine sx_box [.bool n1, v1, d1] rfl rfl rfl (fun b2 w3 eb2 sb2 fb2 cb2 => ?_)
 have zw3 := cb2.size
 refine sx_box [.bool n2, v2, d2] rfl rfl rfl (fun b4 w5 eb4 sb4 fb4 cb4 => ?_)
 have zw5 := cb4.size
 refine sx_alloc [.bool false, (.slice none 0 0), (.slice none 0 0)] rfl Tryz.zeroValue30 rfl (fun b6 w7 eb6 sb6 fb6 cb6 => ?_)
 have zw7 := cb6.size
 refine av rfl rfl (wl_nil (q_n (k1 _ _ ?_)))
 refine sx_seq fun K8 k8 => ?_
 refine sx_seq fun K9 k9 => sx_region ?_
 have f10 := fb2.ext cb4
 have f11 := f10.ext cb6
 refine sp rfl (px_load rfl (f11.loadA (vs := [.bool n1, v1, d1]) (look_lit rfl) Tryz.isAgg30 Tryz.sizeOf30)) ?_
 have f12 := hv10.ext cb2
 have f13 := f12.ext cb4
 have f14 := f13.ext cb6
 have f15 := hd10.ext cb2
 have f16 := f15.ext cb4
 have f17 := f16.ext cb6
 refine sx_call rfl rfl Tryz.call74 (c_sRatOk f14 f17 (by omega)) (fun v18 w18 p18 => ?_)
 obtain ⟨rfl, c18⟩ := p18
 have zw18 := c18.size
 refine sp rfl (px_notP rfl) ?_
 refine mv rfl rfl ?_
 refine sx_tmpP (t := 12) rfl (fun h56 => ?_) (fun h56 => ?_)
 ·
  refine sx_guardF rfl rfl rfl rfl rfl rfl ?_
  refine sx_guardF rfl rfl rfl rfl rfl rfl ?_
  refine sx_guardF rfl rfl rfl rfl rfl rfl ?_
  refine sp rfl (px_pick rfl rfl) ?_
  refine wl_nil (q_n (k9 _ _ ?_))
  refine sx_condT rfl ?_
  refine sx_seq fun K19 k19 => sx_region ?_
  refine sp rfl (px_build rfl (xbld30x  _)) ?_
  have f21 := fb6.ext c18
  refine sx_store (vs := [.bool false, (.slice none 0 0), (.slice none 0 0)]) rfl rfl f21 rfl Tryz.sizeOf30 (nbl rfl) (o3 rfl rfl rfl) (fun w20 sw20 fw20 cw20 => ?_)
  have zw20 := cw20.size
  have gw20 : Blk w20 b6 [.bool false, (.slice none 0 0), (.slice none 0 0)] 30 := fw20
  refine av rfl rfl (wl_nil (q_n (k19 _ _ ?_)))
  refine sx_sub (Sub.c 2 rfl (.c 3 rfl (.c 4 rfl (.c 5 rfl .nil)))) ?_
  refine sx_retc ?_
  refine q_r (sx_ret2 Tryz.results149 ⟨_, rfl, gw20.loadA (vs := [.bool false, (.slice none 0 0), (.slice none 0 0)]) (look_lit rfl) Tryz.isAgg30 Tryz.sizeOf30⟩ rfl ?_)
  rw [rAdd_no (by grind)]
  have q22 := Chg.step (l := 0) (h := 0) (Chg.zero (l := 0) (h := 0) (((cb2.t cb4).t cb6).t c18)) cw20 (by omega)
  exact ⟨_, _, w.heap.size, w.heap.size, w.heap.size, w.heap.size, rfl, Own.nil _ _ _ _ _, Own.nil _ _ _ _ _, by omega, ⟨by simp [noR], by simp [noR]⟩, q22⟩
 refine sx_guardT rfl rfl rfl ?_
 have f23 := fb4.ext cb6
 have f24 := f23.ext c18
 refine sp rfl (px_load rfl (f24.loadA (vs := [.bool n2, v2, d2]) (look_lit rfl) Tryz.isAgg30 Tryz.sizeOf30)) ?_
 refine sx_guardT rfl rfl rfl ?_
 have f25 := hv20.ext cb2
 have f26 := f25.ext cb4
 have f27 := f26.ext cb6
 have f28 := f27.ext c18
 have f29 := hd20.ext cb2
 have f30 := f29.ext cb4
 have f31 := f30.ext cb6
 have f32 := f31.ext c18
 refine sx_call rfl rfl Tryz.call74 (c_sRatOk f28 f32 (by omega)) (fun v33 w33 p33 => ?_)
 obtain ⟨rfl, c33⟩ := p33
 have zw33 := c33.size
 refine sx_guardT rfl rfl rfl ?_
 refine sp rfl (px_notP rfl) ?_
 refine sp rfl (px_pick rfl rfl) ?_
 refine wl_nil (q_n (k9 _ _ ?_))
 refine sx_condP rfl (fun h56x1 => ?_) (fun h56x1 => ?_)
 ·
  refine sx_seq fun K34 k34 => sx_region ?_
  refine sp rfl (px_build rfl (xbld30x  _)) ?_
  have f37 := (fb6.ext c18).ext c33
  refine sx_store (vs := [.bool false, (.slice none 0 0), (.slice none 0 0)]) rfl rfl f37 rfl Tryz.sizeOf30 (nbl rfl) (o3 rfl rfl rfl) (fun w35 sw35 fw35 cw35 => ?_)
  have zw35 := cw35.size
  have gw35 : Blk w35 b6 [.bool false, (.slice none 0 0), (.slice none 0 0)] 30 := fw35
  refine av rfl rfl (wl_nil (q_n (k34 _ _ ?_)))
  refine sx_sub (Sub.c 2 rfl (.c 3 rfl (.c 4 rfl (.c 5 rfl .nil)))) ?_
  refine sx_retc ?_
  refine q_r (sx_ret2 Tryz.results149 ⟨_, rfl, gw35.loadA (vs := [.bool false, (.slice none 0 0), (.slice none 0 0)]) (look_lit rfl) Tryz.isAgg30 Tryz.sizeOf30⟩ rfl ?_)
  rw [rAdd_no (by grind)]
  have q38 := Chg.step (l := 0) (h := 0) (Chg.zero (l := 0) (h := 0) ((((cb2.t cb4).t cb6).t c18).t c33)) cw35 (by omega)
  exact ⟨_, _, w.heap.size, w.heap.size, w.heap.size, w.heap.size, rfl, Own.nil _ _ _ _ _, Own.nil _ _ _ _ _, by omega, ⟨by simp [noR], by simp [noR]⟩, q38⟩
 have hR1 := Decidable.not_not.1 h56
 have hR2 := Decidable.not_not.1 h56x1
 obtain ⟨x1, e1, rfl, rfl, rfl, hp1, hx1, hy1, hg1⟩ := hR1.rat
 obtain ⟨x2, e2, rfl, rfl, rfl, hp2, hx2, hy2, hg2⟩ := hR2.rat
 have l1 := len_mul x1.natAbs e2
 have l2 := len_mul x2.natAbs e1
 have l3 := len_mul e1 e2
 have a1 : (x1 * (e2 : Int)).natAbs = x1.natAbs * e2 := by rw [Int.natAbs_mul, Int.natAbs_natCast]
 have a2 : (x2 * (e1 : Int)).natAbs = x2.natAbs * e1 := by rw [Int.natAbs_mul, Int.natAbs_natCast]
 have l4 := len_addI (x1 * (e2 : Int)) (x2 * (e1 : Int))
 rw [a1, a2] at l4
 have l5 := len_mul e1 x2.natAbs
 have l6 := len_mul x1.natAbs x2.natAbs
 have c1 : capI (ng x1) (x1.natAbs * e2) = x1 * (e2 : Int) := by rw [capI_of (mul_nat_sg x1 e2), cap_ok (by rw [a1]; omega)]
 have c2 : capI (ng x2) (x2.natAbs * e1) = x2 * (e1 : Int) := by rw [capI_of (mul_nat_sg x2 e1), cap_ok (by rw [a2]; omega)]
 have c3 : (cap (capI (ng x1) (x1.natAbs * e2) + capI (ng x2) (x2.natAbs * e1))) = x1 * (e2 : Int) + x2 * (e1 : Int) := by rw [c1, c2, cap_ok (by omega)]
 refine sx_skip ?_
 refine q_n (k8 _ _ ?_)
 refine sx_seq fun K39 k39 => ?_
 refine sx_cut k39 (fun fr w' => ∃ (gb40x0 : Nat) (gs40x1 : Value) (gl40x1 : Nat) (gu40x1 : Nat), fr = [(2, .pointer (some ⟨b2, 0, none⟩)), (3, .pointer (some ⟨b4, 0, none⟩)), (4, .pointer (some ⟨b6, 0, none⟩)), (5, .bool false), (6, .pointer (some ⟨gb40x0, 0, none⟩))] ∧ Chg 0 0 w33 w' ∧ (Blk w' gb40x0 [.bool (ng (capI (ng x1) (x1.natAbs * e2))), gs40x1] 28) ∧ (Own w' gl40x1 gu40x1 gs40x1 intT ((dg (capI (ng x1) (x1.natAbs * e2)).natAbs).length) 1 ((dg (capI (ng x1) (x1.natAbs * e2)).natAbs).map (Value.int .i64))) ∧ (w33.heap.size ≤ gb40x0 ∧ gb40x0 + 1 ≤ w'.heap.size) ∧ (w33.heap.size ≤ gl40x1 ∧ gu40x1 ≤ w'.heap.size) ∧ (gu40x1 ≤ gb40x0 ∨ gb40x0 + 1 ≤ gl40x1)) (fun kc40 => ?_) ?_
 ·
  have f42 := (f11.ext c18).ext c33
  have f43 := f24.ext c33
  have f45 := (fb6.ext c18).ext c33
  have f47 := (f14.ext c18).ext c33
  have f49 := (f17.ext c18).ext c33
  have f50 := f28.ext c33
  have f51 := f32.ext c33
  refine dx_region (fun w' => Chg 0 0 w33 w') (by kernel_rfl) (Chg.zero (Chg.drew _)) ?_
  have d52 := Chg.drew w33
  have s52 : Chg 0 0 w33 (World.drew w33) := Chg.zero (Chg.drew _)
  have y52 : (World.drew w33).heap.size = w33.heap.size := rfl
  generalize World.drew w33 = w52 at *
  have zw52 := d52.size
  refine dt 0 rfl rfl rfl rfl s52 (fun _ hS => px_field rfl xfld30x0) ?_
  refine dt 1 rfl rfl rfl rfl s52 (fun _ hS => px_field rfl xfld28x0) ?_
  refine dt 2 rfl rfl rfl rfl s52 (fun _ hS => px_load rfl ((f42.chg hS (by omega)).load1 rfl Tryz.isAgg4)) ?_
  refine dt 3 rfl rfl rfl rfl s52 (fun _ hS => px_field rfl xfld30x0) ?_
  refine dt 4 rfl rfl rfl rfl s52 (fun _ hS => px_field rfl xfld28x1) ?_
  refine dt 5 rfl rfl rfl rfl s52 (fun _ hS => px_load rfl ((f42.chg hS (by omega)).load1 rfl Tryz.isAgg26)) ?_
  refine dt 6 rfl rfl rfl rfl s52 (fun _ hS => px_field rfl xfld30x1) ?_
  refine dt 7 rfl rfl rfl rfl s52 (fun _ hS => px_load rfl ((f43.chg hS (by omega)).load1 rfl Tryz.isAgg26)) ?_
  refine dx_eff2 8 10 rfl rfl (by kernel_rfl) ?_ ?_
  ·
   have f53 := f47.ext d52
   have f54 := f51.ext d52
   refine sx_call rfl rfl Tryz.call76 (c_l02Mul f53 f54 (by omega) (by omega)) (fun v55 w55 p55 => ?_)
   obtain ⟨s55, rfl, os_55, c55⟩ := p55
   have zw55 := c55.size
   have s56 : Chg 0 0 w33 w55 := (d52.t c55)
   refine wl_nil ?_
   refine dx_next s56 ?_
   refine dx_eff2 9 10 rfl rfl (by kernel_rfl) ?_ ?_
   ·
    refine sx_call rfl rfl Tryz.call70 (c_l04Make os_55 (by omega)) (fun v57 w57 p57 => ?_)
    obtain ⟨s57, rfl, os_57, c57⟩ := p57
    have zw57 := c57.size
    have s58 : Chg 0 0 w33 w57 := ((d52.t c55).t c57)
    refine wl_nil ?_
    refine dx_next s58 ?_
    refine dx_eff 10 rfl (by kernel_rfl) ?_
    refine sx_alloc [.bool false, (.slice none 0 0)] rfl Tryz.zeroValue28 rfl (fun b59 w60 eb59 sb59 fb59 cb59 => ?_)
    have zw60 := cb59.size
    have s61 : Chg 0 0 w33 w60 := (((d52.t c55).t c57).t cb59)
    refine wl_nil ?_
    refine dx_next s61 ?_
    refine dx_eff 11 rfl (by kernel_rfl) ?_
    have f63 := os_57.ext cb59
    refine sx_store (vs := [.bool (ng (capI (ng x1) (x1.natAbs * e2))), s57]) rfl rfl fb59 rfl Tryz.sizeOf28 (nbl rfl) (one_cons rfl (one_cons f63.one one_nil)) (fun w62 sw62 fw62 cw62 => ?_)
    have zw62 := cw62.size
    have gw62 : Blk w62 b59 [.bool (ng (capI (ng x1) (x1.natAbs * e2))), s57] 28 := fw62
    have q65 := Chg.step (l := 0) (h := 0) (Chg.zero (l := 0) (h := 0) (((d52.t c55).t c57).t cb59)) cw62 (by omega)
    have s64 : Chg 0 0 w33 w62 := q65
    refine wl_nil ?_
    refine dx_next s64 ?_
    refine dx_done (by kernel_rfl) ?_
    have f66 := f63.chg cw62 (by omega)
    have q67 := Chg.step (l := 0) (h := 0) (Chg.zero (l := 0) (h := 0) (((d52.t c55).t c57).t cb59)) cw62 (by omega)
    exact q_n (kw_sub (Sub.c 2 rfl (.c 3 rfl (.c 4 rfl (.c 5 rfl (.c 6 rfl .nil))))) (kc40 _ _ ⟨b59, s57, w55.heap.size, w57.heap.size, rfl, q67, gw62, f66, by omega, by omega, by omega⟩))
   refine sx_alloc [.bool false, (.slice none 0 0)] rfl Tryz.zeroValue28 rfl (fun b68 w69 eb68 sb68 fb68 cb68 => ?_)
   have zw69 := cb68.size
   have s70 : Chg 0 0 w33 w69 := ((d52.t c55).t cb68)
   refine wl_nil ?_
   refine dx_next s70 ?_
   refine dx_eff 9 rfl (by kernel_rfl) ?_
   have f71 := os_55.ext cb68
   refine sx_call rfl rfl Tryz.call70 (c_l04Make f71 (by omega)) (fun v72 w72 p72 => ?_)
   obtain ⟨s72, rfl, os_72, c72⟩ := p72
   have zw72 := c72.size
   have s73 : Chg 0 0 w33 w72 := (((d52.t c55).t cb68).t c72)
   refine wl_nil ?_
   refine dx_next s73 ?_
   refine dx_eff 11 rfl (by kernel_rfl) ?_
   have f75 := fb68.ext c72
   refine sx_store (vs := [.bool (ng (capI (ng x1) (x1.natAbs * e2))), s72]) rfl rfl f75 rfl Tryz.sizeOf28 (nbl rfl) (one_cons rfl (one_cons os_72.one one_nil)) (fun w74 sw74 fw74 cw74 => ?_)
   have zw74 := cw74.size
   have gw74 : Blk w74 b68 [.bool (ng (capI (ng x1) (x1.natAbs * e2))), s72] 28 := fw74
   have q77 := Chg.step (l := 0) (h := 0) (Chg.zero (l := 0) (h := 0) (((d52.t c55).t cb68).t c72)) cw74 (by omega)
   have s76 : Chg 0 0 w33 w74 := q77
   refine wl_nil ?_
   refine dx_next s76 ?_
   refine dx_done (by kernel_rfl) ?_
   have f78 := os_72.chg cw74 (by omega)
   have q79 := Chg.step (l := 0) (h := 0) (Chg.zero (l := 0) (h := 0) (((d52.t c55).t cb68).t c72)) cw74 (by omega)
   exact q_n (kw_sub (Sub.c 2 rfl (.c 3 rfl (.c 4 rfl (.c 5 rfl (.c 6 rfl .nil))))) (kc40 _ _ ⟨b68, s72, w69.heap.size, w72.heap.size, rfl, q79, gw74, f78, by omega, by omega, by omega⟩))
  refine sx_alloc [.bool false, (.slice none 0 0)] rfl Tryz.zeroValue28 rfl (fun b80 w81 eb80 sb80 fb80 cb80 => ?_)
  have zw81 := cb80.size
  have s82 : Chg 0 0 w33 w81 := (d52.t cb80)
  refine wl_nil ?_
  refine dx_next s82 ?_
  refine dx_eff 8 rfl (by kernel_rfl) ?_
  have f84 := (f47.ext d52).ext cb80
  have f86 := (f51.ext d52).ext cb80
  refine sx_call rfl rfl Tryz.call76 (c_l02Mul f84 f86 (by omega) (by omega)) (fun v87 w87 p87 => ?_)
  obtain ⟨s87, rfl, os_87, c87⟩ := p87
  have zw87 := c87.size
  have s88 : Chg 0 0 w33 w87 := ((d52.t cb80).t c87)
  refine wl_nil ?_
  refine dx_next s88 ?_
  refine dx_eff 9 rfl (by kernel_rfl) ?_
  refine sx_call rfl rfl Tryz.call70 (c_l04Make os_87 (by omega)) (fun v89 w89 p89 => ?_)
  obtain ⟨s89, rfl, os_89, c89⟩ := p89
  have zw89 := c89.size
  have s90 : Chg 0 0 w33 w89 := (((d52.t cb80).t c87).t c89)
  refine wl_nil ?_
  refine dx_next s90 ?_
  refine dx_eff 11 rfl (by kernel_rfl) ?_
  have f93 := (fb80.ext c87).ext c89
  refine sx_store (vs := [.bool (ng (capI (ng x1) (x1.natAbs * e2))), s89]) rfl rfl f93 rfl Tryz.sizeOf28 (nbl rfl) (one_cons rfl (one_cons os_89.one one_nil)) (fun w91 sw91 fw91 cw91 => ?_)
  have zw91 := cw91.size
  have gw91 : Blk w91 b80 [.bool (ng (capI (ng x1) (x1.natAbs * e2))), s89] 28 := fw91
  have q95 := Chg.step (l := 0) (h := 0) (Chg.zero (l := 0) (h := 0) (((d52.t cb80).t c87).t c89)) cw91 (by omega)
  have s94 : Chg 0 0 w33 w91 := q95
  refine wl_nil ?_
  refine dx_next s94 ?_
  refine dx_done (by kernel_rfl) ?_
  have f96 := os_89.chg cw91 (by omega)
  have q97 := Chg.step (l := 0) (h := 0) (Chg.zero (l := 0) (h := 0) (((d52.t cb80).t c87).t c89)) cw91 (by omega)
  exact q_n (kw_sub (Sub.c 2 rfl (.c 3 rfl (.c 4 rfl (.c 5 rfl (.c 6 rfl .nil))))) (kc40 _ _ ⟨b80, s89, w87.heap.size, w89.heap.size, rfl, q97, gw91, f96, by omega, by omega, by omega⟩))
 rintro fr w'40 ⟨gb40x0, gs40x1, gl40x1, gu40x1, rfl, cw'40, xgb40x0, xgs40x1, ygb40x0, ygl40x1, dgl40x1xgb40x0⟩
 have zw'40 := cw'40.size
 refine sx_seq fun K98 k98 => ?_
 refine sx_cut k98 (fun fr w' => ∃ (gb99x0 : Nat) (gs99x1 : Value) (gl99x1 : Nat) (gu99x1 : Nat), fr = [(2, .pointer (some ⟨b2, 0, none⟩)), (3, .pointer (some ⟨b4, 0, none⟩)), (4, .pointer (some ⟨b6, 0, none⟩)), (5, .bool false), (6, .pointer (some ⟨gb40x0, 0, none⟩)), (7, .pointer (some ⟨gb99x0, 0, none⟩))] ∧ Chg 0 0 w'40 w' ∧ (Blk w' gb99x0 [.bool (ng (capI (ng x2) (x2.natAbs * e1))), gs99x1] 28) ∧ (Own w' gl99x1 gu99x1 gs99x1 intT ((dg (capI (ng x2) (x2.natAbs * e1)).natAbs).length) 1 ((dg (capI (ng x2) (x2.natAbs * e1)).natAbs).map (Value.int .i64))) ∧ (w'40.heap.size ≤ gb99x0 ∧ gb99x0 + 1 ≤ w'.heap.size) ∧ (w'40.heap.size ≤ gl99x1 ∧ gu99x1 ≤ w'.heap.size) ∧ (gu99x1 ≤ gb99x0 ∨ gb99x0 + 1 ≤ gl99x1)) (fun kc99 => ?_) ?_
 ·
  have f102 := ((f11.ext c18).ext c33).ext cw'40
  have f104 := (f24.ext c33).ext cw'40
  have f107 := ((fb6.ext c18).ext c33).ext cw'40
  have f110 := ((f14.ext c18).ext c33).ext cw'40
  have f113 := ((f17.ext c18).ext c33).ext cw'40
  have f115 := (f28.ext c33).ext cw'40
  have f117 := (f32.ext c33).ext cw'40
  refine dx_region (fun w' => Chg 0 0 w'40 w') (by kernel_rfl) (Chg.zero (Chg.drew _)) ?_
  have d118 := Chg.drew w'40
  have s118 : Chg 0 0 w'40 (World.drew w'40) := Chg.zero (Chg.drew _)
  have y118 : (World.drew w'40).heap.size = w'40.heap.size := rfl
  generalize World.drew w'40 = w118 at *
  have zw118 := d118.size
  refine dt 0 rfl rfl rfl rfl s118 (fun _ hS => px_field rfl xfld30x0) ?_
  refine dt 1 rfl rfl rfl rfl s118 (fun _ hS => px_field rfl xfld28x0) ?_
  refine dt 2 rfl rfl rfl rfl s118 (fun _ hS => px_load rfl ((f104.chg hS (by omega)).load1 rfl Tryz.isAgg4)) ?_
  refine dt 3 rfl rfl rfl rfl s118 (fun _ hS => px_field rfl xfld30x0) ?_
  refine dt 4 rfl rfl rfl rfl s118 (fun _ hS => px_field rfl xfld28x1) ?_
  refine dt 5 rfl rfl rfl rfl s118 (fun _ hS => px_load rfl ((f104.chg hS (by omega)).load1 rfl Tryz.isAgg26)) ?_
  refine dt 6 rfl rfl rfl rfl s118 (fun _ hS => px_field rfl xfld30x1) ?_
  refine dt 7 rfl rfl rfl rfl s118 (fun _ hS => px_load rfl ((f102.chg hS (by omega)).load1 rfl Tryz.isAgg26)) ?_
  refine dx_eff2 8 10 rfl rfl (by kernel_rfl) ?_ ?_
  ·
   have f119 := f115.ext d118
   have f120 := f113.ext d118
   refine sx_call rfl rfl Tryz.call76 (c_l02Mul f119 f120 (by omega) (by omega)) (fun v121 w121 p121 => ?_)
   obtain ⟨s121, rfl, os_121, c121⟩ := p121
   have zw121 := c121.size
   have s122 : Chg 0 0 w'40 w121 := (d118.t c121)
   refine wl_nil ?_
   refine dx_next s122 ?_
   refine dx_eff2 9 10 rfl rfl (by kernel_rfl) ?_ ?_
   ·
    refine sx_call rfl rfl Tryz.call70 (c_l04Make os_121 (by omega)) (fun v123 w123 p123 => ?_)
    obtain ⟨s123, rfl, os_123, c123⟩ := p123
    have zw123 := c123.size
    have s124 : Chg 0 0 w'40 w123 := ((d118.t c121).t c123)
    refine wl_nil ?_
    refine dx_next s124 ?_
    refine dx_eff 10 rfl (by kernel_rfl) ?_
    refine sx_alloc [.bool false, (.slice none 0 0)] rfl Tryz.zeroValue28 rfl (fun b125 w126 eb125 sb125 fb125 cb125 => ?_)
    have zw126 := cb125.size
    have s127 : Chg 0 0 w'40 w126 := (((d118.t c121).t c123).t cb125)
    refine wl_nil ?_
    refine dx_next s127 ?_
    refine dx_eff 11 rfl (by kernel_rfl) ?_
    have f129 := os_123.ext cb125
    refine sx_store (vs := [.bool (ng (capI (ng x2) (x2.natAbs * e1))), s123]) rfl rfl fb125 rfl Tryz.sizeOf28 (nbl rfl) (one_cons rfl (one_cons f129.one one_nil)) (fun w128 sw128 fw128 cw128 => ?_)
    have zw128 := cw128.size
    have gw128 : Blk w128 b125 [.bool (ng (capI (ng x2) (x2.natAbs * e1))), s123] 28 := fw128
    have q131 := Chg.step (l := 0) (h := 0) (Chg.zero (l := 0) (h := 0) (((d118.t c121).t c123).t cb125)) cw128 (by omega)
    have s130 : Chg 0 0 w'40 w128 := q131
    refine wl_nil ?_
    refine dx_next s130 ?_
    refine dx_done (by kernel_rfl) ?_
    have f132 := f129.chg cw128 (by omega)
    have q133 := Chg.step (l := 0) (h := 0) (Chg.zero (l := 0) (h := 0) (((d118.t c121).t c123).t cb125)) cw128 (by omega)
    exact q_n (kw_sub (Sub.c 2 rfl (.c 3 rfl (.c 4 rfl (.c 5 rfl (.c 6 rfl (.c 7 rfl .nil)))))) (kc99 _ _ ⟨b125, s123, w121.heap.size, w123.heap.size, rfl, q133, gw128, f132, by omega, by omega, by omega⟩))
   refine sx_alloc [.bool false, (.slice none 0 0)] rfl Tryz.zeroValue28 rfl (fun b134 w135 eb134 sb134 fb134 cb134 => ?_)
   have zw135 := cb134.size
   have s136 : Chg 0 0 w'40 w135 := ((d118.t c121).t cb134)
   refine wl_nil ?_
   refine dx_next s136 ?_
   refine dx_eff 9 rfl (by kernel_rfl) ?_
   have f137 := os_121.ext cb134
   refine sx_call rfl rfl Tryz.call70 (c_l04Make f137 (by omega)) (fun v138 w138 p138 => ?_)
   obtain ⟨s138, rfl, os_138, c138⟩ := p138
   have zw138 := c138.size
   have s139 : Chg 0 0 w'40 w138 := (((d118.t c121).t cb134).t c138)
   refine wl_nil ?_
   refine dx_next s139 ?_
   refine dx_eff 11 rfl (by kernel_rfl) ?_
   have f141 := fb134.ext c138
   refine sx_store (vs := [.bool (ng (capI (ng x2) (x2.natAbs * e1))), s138]) rfl rfl f141 rfl Tryz.sizeOf28 (nbl rfl) (one_cons rfl (one_cons os_138.one one_nil)) (fun w140 sw140 fw140 cw140 => ?_)
   have zw140 := cw140.size
   have gw140 : Blk w140 b134 [.bool (ng (capI (ng x2) (x2.natAbs * e1))), s138] 28 := fw140
   have q143 := Chg.step (l := 0) (h := 0) (Chg.zero (l := 0) (h := 0) (((d118.t c121).t cb134).t c138)) cw140 (by omega)
   have s142 : Chg 0 0 w'40 w140 := q143
   refine wl_nil ?_
   refine dx_next s142 ?_
   refine dx_done (by kernel_rfl) ?_
   have f144 := os_138.chg cw140 (by omega)
   have q145 := Chg.step (l := 0) (h := 0) (Chg.zero (l := 0) (h := 0) (((d118.t c121).t cb134).t c138)) cw140 (by omega)
   exact q_n (kw_sub (Sub.c 2 rfl (.c 3 rfl (.c 4 rfl (.c 5 rfl (.c 6 rfl (.c 7 rfl .nil)))))) (kc99 _ _ ⟨b134, s138, w135.heap.size, w138.heap.size, rfl, q145, gw140, f144, by omega, by omega, by omega⟩))
  refine sx_alloc [.bool false, (.slice none 0 0)] rfl Tryz.zeroValue28 rfl (fun b146 w147 eb146 sb146 fb146 cb146 => ?_)
  have zw147 := cb146.size
  have s148 : Chg 0 0 w'40 w147 := (d118.t cb146)
  refine wl_nil ?_
  refine dx_next s148 ?_
  refine dx_eff 8 rfl (by kernel_rfl) ?_
  have f150 := (f115.ext d118).ext cb146
  have f152 := (f113.ext d118).ext cb146
  refine sx_call rfl rfl Tryz.call76 (c_l02Mul f150 f152 (by omega) (by omega)) (fun v153 w153 p153 => ?_)
  obtain ⟨s153, rfl, os_153, c153⟩ := p153
  have zw153 := c153.size
  have s154 : Chg 0 0 w'40 w153 := ((d118.t cb146).t c153)
  refine wl_nil ?_
  refine dx_next s154 ?_
  refine dx_eff 9 rfl (by kernel_rfl) ?_
  refine sx_call rfl rfl Tryz.call70 (c_l04Make os_153 (by omega)) (fun v155 w155 p155 => ?_)
  obtain ⟨s155, rfl, os_155, c155⟩ := p155
  have zw155 := c155.size
  have s156 : Chg 0 0 w'40 w155 := (((d118.t cb146).t c153).t c155)
  refine wl_nil ?_
  refine dx_next s156 ?_
  refine dx_eff 11 rfl (by kernel_rfl) ?_
  have f159 := (fb146.ext c153).ext c155
  refine sx_store (vs := [.bool (ng (capI (ng x2) (x2.natAbs * e1))), s155]) rfl rfl f159 rfl Tryz.sizeOf28 (nbl rfl) (one_cons rfl (one_cons os_155.one one_nil)) (fun w157 sw157 fw157 cw157 => ?_)
  have zw157 := cw157.size
  have gw157 : Blk w157 b146 [.bool (ng (capI (ng x2) (x2.natAbs * e1))), s155] 28 := fw157
  have q161 := Chg.step (l := 0) (h := 0) (Chg.zero (l := 0) (h := 0) (((d118.t cb146).t c153).t c155)) cw157 (by omega)
  have s160 : Chg 0 0 w'40 w157 := q161
  refine wl_nil ?_
  refine dx_next s160 ?_
  refine dx_done (by kernel_rfl) ?_
  have f162 := os_155.chg cw157 (by omega)
  have q163 := Chg.step (l := 0) (h := 0) (Chg.zero (l := 0) (h := 0) (((d118.t cb146).t c153).t c155)) cw157 (by omega)
  exact q_n (kw_sub (Sub.c 2 rfl (.c 3 rfl (.c 4 rfl (.c 5 rfl (.c 6 rfl (.c 7 rfl .nil)))))) (kc99 _ _ ⟨b146, s155, w153.heap.size, w155.heap.size, rfl, q163, gw157, f162, by omega, by omega, by omega⟩))
 rintro fr w'99 ⟨gb99x0, gs99x1, gl99x1, gu99x1, rfl, cw'99, xgb99x0, xgs99x1, ygb99x0, ygl99x1, dgl99x1xgb99x0⟩
 have zw'99 := cw'99.size
 refine sx_seq fun K164 k164 => sx_region ?_
 have f165 := xgb40x0.ext cw'99
 refine sp rfl (px_load rfl (f165.loadA (vs := [.bool (ng (capI (ng x1) (x1.natAbs * e2))), gs40x1]) (look_lit rfl) Tryz.isAgg28 Tryz.sizeOf28)) ?_
 refine sp rfl (px_load rfl (xgb99x0.loadA (vs := [.bool (ng (capI (ng x2) (x2.natAbs * e1))), gs99x1]) (look_lit rfl) Tryz.isAgg28 Tryz.sizeOf28)) ?_
 have f166 := xgs40x1.ext cw'99
 refine sx_call rfl rfl Tryz.call154 (c_l04Add f166.sv xgs99x1.sv (by rw [c1, a1]; omega) (by rw [c2, a2]; omega)) (fun v167 w167 p167 => ?_)
 obtain ⟨s167, rfl, os_167, c167⟩ := p167
 have zw167 := c167.size
 refine sx_alloc [.bool false, (.slice none 0 0)] rfl Tryz.zeroValue28 rfl (fun b168 w169 eb168 sb168 fb168 cb168 => ?_)
 have zw169 := cb168.size
 have f171 := os_167.ext cb168
 refine sx_store (vs := [.bool (ng (cap ((capI (ng x1) (x1.natAbs * e2)) + (capI (ng x2) (x2.natAbs * e1))))), s167]) rfl rfl fb168 rfl Tryz.sizeOf28 (nbl rfl) (one_cons rfl (one_cons f171.one one_nil)) (fun w170 sw170 fw170 cw170 => ?_)
 have zw170 := cw170.size
 have gw170 : Blk w170 b168 [.bool (ng (cap ((capI (ng x1) (x1.natAbs * e2)) + (capI (ng x2) (x2.natAbs * e1))))), s167] 28 := fw170
 refine wl_nil (q_n (k164 _ _ ?_))
 refine sx_seq fun K172 k172 => ?_
 have f175 := ((f11.ext c18).ext c33).ext cw'40
 have f176 := f175.ext cw'99
 have f178 := (f176.ext c167).ext cb168
 have f179 := f178.chg cw170 (by omega)
 have f181 := (f24.ext c33).ext cw'40
 have f182 := f181.ext cw'99
 have f184 := (f182.ext c167).ext cb168
 have f185 := f184.chg cw170 (by omega)
 have f187 := (f165.ext c167).ext cb168
 have f188 := f187.chg cw170 (by omega)
 have f190 := (xgb99x0.ext c167).ext cb168
 have f191 := f190.chg cw170 (by omega)
 have f194 := ((f14.ext c18).ext c33).ext cw'40
 have f195 := f194.ext cw'99
 have f197 := (f195.ext c167).ext cb168
 have f198 := f197.chg cw170 (by omega)
 have f201 := ((f17.ext c18).ext c33).ext cw'40
 have f202 := f201.ext cw'99
 have f204 := (f202.ext c167).ext cb168
 have f205 := f204.chg cw170 (by omega)
 have f207 := (f28.ext c33).ext cw'40
 have f208 := f207.ext cw'99
 have f210 := (f208.ext c167).ext cb168
 have f211 := f210.chg cw170 (by omega)
 have f213 := (f32.ext c33).ext cw'40
 have f214 := f213.ext cw'99
 have f216 := (f214.ext c167).ext cb168
 have f217 := f216.chg cw170 (by omega)
 have f219 := (f166.ext c167).ext cb168
 have f220 := f219.chg cw170 (by omega)
 have f222 := (xgs99x1.ext c167).ext cb168
 have f223 := f222.chg cw170 (by omega)
 have f224 := f171.chg cw170 (by omega)
 refine dx_region (fun w' => Chg b6 (b6 + 1) w170 w') (by kernel_rfl) (Chg.zero (Chg.drew _)) ?_
 have d225 := Chg.drew w170
 have s225 : Chg b6 (b6 + 1) w170 (World.drew w170) := Chg.zero (Chg.drew _)
 have y225 : (World.drew w170).heap.size = w170.heap.size := rfl
 generalize World.drew w170 = w225 at *
 have zw225 := d225.size
 refine dt 0 rfl rfl rfl rfl s225 (fun _ hS => px_field rfl xfld28x0) ?_
 refine dt 1 rfl rfl rfl rfl s225 (fun _ hS => px_load rfl ((gw170.chg hS (by omega)).load1 rfl Tryz.isAgg4)) ?_
 refine dt 2 rfl rfl rfl rfl s225 (fun _ hS => px_field rfl xfld28x1) ?_
 refine dt 3 rfl rfl rfl rfl s225 (fun _ hS => px_load rfl ((gw170.chg hS (by omega)).load1 rfl Tryz.isAgg26)) ?_
 refine dt 4 rfl rfl rfl rfl s225 (fun _ hS => px_field rfl xfld30x1) ?_
 refine dt 5 rfl rfl rfl rfl s225 (fun _ hS => px_load rfl ((f179.chg hS (by omega)).load1 rfl Tryz.isAgg26)) ?_
 refine dt 6 rfl rfl rfl rfl s225 (fun _ hS => px_field rfl xfld30x1) ?_
 refine dt 7 rfl rfl rfl rfl s225 (fun _ hS => px_load rfl ((f185.chg hS (by omega)).load1 rfl Tryz.isAgg26)) ?_
 refine dx_eff 8 rfl (by kernel_rfl) ?_
 have f226 := f205.ext d225
 have f227 := f217.ext d225
 refine sx_call rfl rfl Tryz.call76 (c_l02Mul f226 f227 (by omega) (by omega)) (fun v228 w228 p228 => ?_)
 obtain ⟨s228, rfl, os_228, c228⟩ := p228
 have zw228 := c228.size
 have s229 : Chg b6 (b6 + 1) w170 w228 := (Chg.zero (l := b6) (h := (b6 + 1)) (d225.t c228))
 refine wl_nil ?_
 refine dx_next s229 ?_
 refine dx_eff 9 rfl (by kernel_rfl) ?_
 have f231 := (f224.ext d225).ext c228
 refine sx_call rfl rfl Tryz.call75 (c_l05Low f231.sv os_228 (by rw [c3]; omega) (by omega)) (fun v232 w232 p232 => ?_)
 obtain ⟨s232, t232, ls232, us232, lt232, ut232, rfl, os_232, ot_232, hd232, hl232, c232⟩ := p232
 have zw232 := c232.size
 have s233 : Chg b6 (b6 + 1) w170 w232 := (Chg.zero (l := b6) (h := (b6 + 1)) ((d225.t c228).t c232))
 refine wl_nil ?_
 refine dx_next s233 ?_
 refine dt 10 rfl rfl rfl rfl s233 (fun _ hS => px_ex2 rfl rfl) ?_
 refine dt 11 rfl rfl rfl rfl s233 (fun _ hS => px_ex2 rfl rfl) ?_
 refine dx_eff 12 rfl (by kernel_rfl) ?_
 have f237 := ((fb6.ext c18).ext c33).ext cw'40
 have f238 := f237.ext cw'99
 have f240 := (f238.ext c167).ext cb168
 have f241 := f240.chg cw170 (by omega)
 have f244 := ((f241.ext d225).ext c228).ext c232
 refine sx_store (vs := [.bool ((rR (sgI (ng (cap ((capI (ng x1) (x1.natAbs * e2)) + (capI (ng x2) (x2.natAbs * e1))))) ((cap ((capI (ng x1) (x1.natAbs * e2)) + (capI (ng x2) (x2.natAbs * e1)))).natAbs)) (e1 * e2)).1), s232, t232]) rfl rfl f244 rfl Tryz.sizeOf30 (nbl rfl) (one_cons rfl (one_cons os_232.one (one_cons ot_232.one one_nil))) (fun w234 sw234 fw234 cw234 => ?_)
 have zw234 := cw234.size
 have gw234 : Blk w234 b6 [.bool ((rR (sgI (ng (cap ((capI (ng x1) (x1.natAbs * e2)) + (capI (ng x2) (x2.natAbs * e1))))) ((cap ((capI (ng x1) (x1.natAbs * e2)) + (capI (ng x2) (x2.natAbs * e1)))).natAbs)) (e1 * e2)).1), s232, t232] 30 := fw234
 have q246 := Chg.step (l := b6) (h := (b6 + 1)) (Chg.zero (l := b6) (h := (b6 + 1)) ((d225.t c228).t c232)) cw234 (by omega)
 have s245 : Chg b6 (b6 + 1) w170 w234 := q246
 refine wl_nil ?_
 refine dx_next s245 ?_
 refine dt 13 rfl rfl rfl rfl s245 (fun _ hS => px_assign rfl) ?_
 refine dx_done (by kernel_rfl) ?_
 refine q_n (k172 _ _ ?_)
 refine sx_sub (Sub.c 4 rfl (.c 5 rfl .nil)) ?_
 refine sx_retc ?_
 refine sx_ret2 Tryz.results149 ⟨_, rfl, gw234.loadA (vs := [.bool ((rR (sgI (ng (cap ((capI (ng x1) (x1.natAbs * e2)) + (capI (ng x2) (x2.natAbs * e1))))) ((cap ((capI (ng x1) (x1.natAbs * e2)) + (capI (ng x2) (x2.natAbs * e1)))).natAbs)) (e1 * e2)).1), s232, t232]) (look_lit rfl) Tryz.isAgg30 Tryz.sizeOf30⟩ rfl ?_
 have hrl := rAdd_len (n1 := ng x1) (z1 := dg x1.natAbs) (y1 := dg e1) (n2 := ng x2) (z2 := dg x2.natAbs) (y2 := dg e2)
 have hre : rAdd (ng x1) (dg x1.natAbs) (dg e1) (ng x2) (dg x2.natAbs) (dg e2) = rR (sgI (ng (cap (capI (ng x1) (x1.natAbs * e2) + capI (ng x2) (x2.natAbs * e1)))) (cap (capI (ng x1) (x1.natAbs * e2) + capI (ng x2) (x2.natAbs * e1))).natAbs) (e1 * e2) := by rw [rAdd_ok hR1 hR2, c3, sgI_ng]
 rw [hre] at hrl ⊢
 have q247 := Chg.step (l := 0) (h := 0) (Chg.zero (l := 0) (h := 0) ((((((((cb2.t cb4).t cb6).t c18).t c33).t cw'40).t cw'99).t c167).t cb168)) cw170 (by omega)
 have q248 := Chg.step (l := 0) (h := 0) q247 ((d225.t c228).t c232) (by omega)
 have q249 := Chg.step (l := 0) (h := 0) q248 cw234 (by omega)
 have f250 := os_232.chg cw234 (by omega)
 have f251 := ot_232.chg cw234 (by omega)
 exact ⟨_, _, _, _, _, _, rfl, f250, f251, by omega, hrl, q249⟩

theorem c_sRatSub {w : World} {n1 : Bool} {v1 : Value} {lv1 uv1 : Nat} {z1 : List Int} {d1 : Value} {ld1 ud1 : Nat} {y1 : List Int} {n2 : Bool} {v2 : Value} {lv2 uv2 : Nat} {z2 : List Int} {d2 : Value} {ld2 ud2 : Nat} {y2 : List Int} (hv1 : Sl w lv1 uv1 v1 (z1)) (hd1 : Sl w ld1 ud1 d1 (y1)) (hv2 : Sl w lv2 uv2 v2 (z2)) (hd2 : Sl w ld2 ud2 d2 (y2)) (h63 : z1.length ≤ 4611686018427387904 ∧ y1.length ≤ 4611686018427387904 ∧ z2.length ≤ 4611686018427387904 ∧ y2.length ≤ 4611686018427387904) :
  Ret Tryz.prog 129 [.agg #[.bool n1, v1, d1], .agg #[.bool n2, v2, d2]] w fun v w' => ∃ s t ls us lt ut, v = .tuple #[.agg #[.bool ((rSub n1 z1 y1 n2 z2 y2).1), s, t], .bool ((rSub n1 z1 y1 n2 z2 y2).2.2.2)] ∧ OwnI w' (ls) (us) s intT ((rSub n1 z1 y1 n2 z2 y2).2.1) ∧ OwnI w' (lt) (ut) t intT ((rSub n1 z1 y1 n2 z2 y2).2.2.1) ∧ (w.heap.size ≤ ls ∧ us ≤ w'.heap.size ∧ w.heap.size ≤ lt ∧ ut ≤ w'.heap.size ∧ (us ≤ lt ∨ ut ≤ ls)) ∧ ((rSub n1 z1 y1 n2 z2 y2).2.1.length ≤ 18 ∧ (rSub n1 z1 y1 n2 z2 y2).2.2.1.length ≤ 18) ∧ Chg 0 0 w w' := by
 have hv10 := hv1.fit
 have hd10 := hd1.fit
 have hv20 := hv2.fit
 have hd20 := hd2.fit
 refine sx_enter Tryz.func129 rfl Tryz.ntmps129 (nbl rfl) ?_
 refine sx_seq fun K1 k1 => sx_region ?_
 refine sx_box [.bool n1, v1, d1] rfl rfl rfl (fun b2 w3 eb2 sb2 fb2 cb2 => ?_)
 have zw3 := cb2.size
 refine sx_box [.bool n2, v2, d2] rfl rfl rfl (fun b4 w5 eb4 sb4 fb4 cb4 => ?_)
 have zw5 := cb4.size
 refine sx_alloc [.bool false, (.slice none 0 0), (.slice none 0 0)] rfl Tryz.zeroValue30 rfl (fun b6 w7 eb6 sb6 fb6 cb6 => ?_)
 have zw7 := cb6.size
 refine av rfl rfl (wl_nil (q_n (k1 _ _ ?_)))
 refine sx_seq fun K8 k8 => sx_region ?_
 have f9 := fb4.ext cb6
 refine sp rfl (px_load rfl (f9.loadA (vs := [.bool n2, v2, d2]) (look_lit rfl) Tryz.isAgg30 Tryz.sizeOf30)) ?_
 have f10 := hv20.ext cb2
 have f11 := f10.ext cb4
 have f12 := f11.ext cb6
 have f13 := hd20.ext cb2
 have f14 := f13.ext cb4
 have f15 := f14.ext cb6
 refine sx_call rfl rfl Tryz.call148 (c_sRatNeg f12 f15 (by omega)) (fun v16 w16 p16 => ?_)
 obtain ⟨s16, t16, ls16, us16, lt16, ut16, rfl, os_16, ot_16, hd16, hl16, c16⟩ := p16
 have zw16 := c16.size
 refine mv rfl rfl (sp rfl (px_ex2 rfl rfl) ?_)
 refine sp rfl (px_ex2 rfl rfl) ?_
 refine sx_alloc [.bool false, (.slice none 0 0), (.slice none 0 0)] rfl Tryz.zeroValue30 rfl (fun b17 w18 eb17 sb17 fb17 cb17 => ?_)
 have zw18 := cb17.size
 have f20 := ot_16.ext cb17
 have f21 := os_16.ext cb17
 refine sx_store (vs := [.bool ((rNeg n2 z2 y2).1), s16, t16]) rfl rfl fb17 rfl Tryz.sizeOf30 (nbl rfl) (one_cons rfl (one_cons f21.one (one_cons f20.one one_nil))) (fun w19 sw19 fw19 cw19 => ?_)
 have zw19 := cw19.size
 have gw19 : Blk w19 b17 [.bool ((rNeg n2 z2 y2).1), s16, t16] 30 := fw19
 refine av rfl rfl (wl_nil (q_n (k8 _ _ ?_)))
 refine sx_seq fun K22 k22 => ?_
 refine sx_seq fun K23 k23 => sx_region ?_
 refine mv rfl rfl (sp rfl (px_not rfl) ?_)
 refine wl_nil (q_n (k23 _ _ ?_))
 refine sx_sub (Sub.c 2 rfl (.c 4 rfl (.c 5 rfl (.c 6 rfl (.c 14 rfl .nil))))) ?_
 refine sx_condB rfl (fun h76 => ?_) (fun h76 => ?_)
 ·
  refine sx_seq fun K24 k24 => sx_region ?_
  refine sp rfl (px_build rfl (xbld30x  _)) ?_
  have f27 := (fb6.ext c16).ext cb17
  have f28 := f27.chg cw19 (by omega)
  refine sx_store (vs := [.bool false, (.slice none 0 0), (.slice none 0 0)]) rfl rfl f28 rfl Tryz.sizeOf30 (nbl rfl) (o3 rfl rfl rfl) (fun w25 sw25 fw25 cw25 => ?_)
  have zw25 := cw25.size
  have gw25 : Blk w25 b6 [.bool false, (.slice none 0 0), (.slice none 0 0)] 30 := fw25
  refine av rfl rfl (wl_nil (q_n (k24 _ _ ?_)))
  refine sx_retc ?_
  refine q_r (sx_ret2 Tryz.results129 ⟨_, rfl, gw25.loadA (vs := [.bool false, (.slice none 0 0), (.slice none 0 0)]) (look_lit rfl) Tryz.isAgg30 Tryz.sizeOf30⟩ rfl ?_)
  rw [rSub_bad (bnot_t h76)]
  have q29 := Chg.step (l := 0) (h := 0) (Chg.zero (l := 0) (h := 0) ((((cb2.t cb4).t cb6).t c16).t cb17)) cw19 (by omega)
  have q30 := Chg.step (l := 0) (h := 0) q29 cw25 (by omega)
  exact ⟨_, _, w.heap.size, w.heap.size, w.heap.size, w.heap.size, rfl, Own.nil _ _ _ _ _, Own.nil _ _ _ _ _, by omega, ⟨by simp [noR], by simp [noR]⟩, q30⟩
 refine sx_skip ?_
 refine q_n (k22 _ _ ?_)
 refine sx_seq fun K31 k31 => sx_region ?_
 have f32 := fb2.ext cb4
 have f33 := f32.ext cb6
 have f35 := (f33.ext c16).ext cb17
 have f36 := f35.chg cw19 (by omega)
 refine sp rfl (px_load rfl (f36.loadA (vs := [.bool n1, v1, d1]) (look_lit rfl) Tryz.isAgg30 Tryz.sizeOf30)) ?_
 refine sp rfl (px_load rfl (gw19.loadA (vs := [.bool ((rNeg n2 z2 y2).1), s16, t16]) (look_lit rfl) Tryz.isAgg30 Tryz.sizeOf30)) ?_
 have f37 := hv10.ext cb2
 have f38 := f37.ext cb4
 have f39 := f38.ext cb6
 have f41 := (f39.ext c16).ext cb17
 have f42 := f41.chg cw19 (by omega)
 have f43 := hd10.ext cb2
 have f44 := f43.ext cb4
 have f45 := f44.ext cb6
 have f47 := (f45.ext c16).ext cb17
 have f48 := f47.chg cw19 (by omega)
 have f49 := f21.chg cw19 (by omega)
 have f50 := f20.chg cw19 (by omega)
 refine sx_call rfl rfl Tryz.call149 (c_sRatAdd f42 f48 f49.sv f50.sv (by omega)) (fun v51 w51 p51 => ?_)
 obtain ⟨s51, t51, ls51, us51, lt51, ut51, rfl, os_51, ot_51, hd51, hl51, c51⟩ := p51
 have zw51 := c51.size
 refine sp rfl (px_ex2 rfl rfl) ?_
 refine sp rfl (px_ex2 rfl rfl) ?_
 have f54 := (fb6.ext c16).ext cb17
 have f55 := f54.chg cw19 (by omega)
 have f56 := f55.ext c51
 refine sx_store (vs := [.bool ((rAdd n1 z1 y1 ((rNeg n2 z2 y2).1) ((rNeg n2 z2 y2).2.1) ((rNeg n2 z2 y2).2.2.1)).1), s51, t51]) rfl rfl f56 rfl Tryz.sizeOf30 (nbl rfl) (one_cons rfl (one_cons os_51.one (one_cons ot_51.one one_nil))) (fun w52 sw52 fw52 cw52 => ?_)
 have zw52 := cw52.size
 have gw52 : Blk w52 b6 [.bool ((rAdd n1 z1 y1 ((rNeg n2 z2 y2).1) ((rNeg n2 z2 y2).2.1) ((rNeg n2 z2 y2).2.2.1)).1), s51, t51] 30 := fw52
 refine av rfl rfl (wl_nil (q_n (k31 _ _ ?_)))
 refine sx_retc ?_
 refine sx_ret2 Tryz.results129 ⟨_, rfl, gw52.loadA (vs := [.bool ((rAdd n1 z1 y1 ((rNeg n2 z2 y2).1) ((rNeg n2 z2 y2).2.1) ((rNeg n2 z2 y2).2.2.1)).1), s51, t51]) (look_lit rfl) Tryz.isAgg30 Tryz.sizeOf30⟩ rfl ?_
 have hrl := rSub_len (n1 := n1) (z1 := z1) (y1 := y1) (n2 := n2) (z2 := z2) (y2 := y2)
 rw [rSub_neg (bnot_f h76)] at hrl ⊢
 have q57 := Chg.step (l := 0) (h := 0) (Chg.zero (l := 0) (h := 0) ((((cb2.t cb4).t cb6).t c16).t cb17)) cw19 (by omega)
 have q58 := Chg.step (l := 0) (h := 0) q57 c51 (by omega)
 have q59 := Chg.step (l := 0) (h := 0) q58 cw52 (by omega)
 have f60 := os_51.chg cw52 (by omega)
 have f61 := ot_51.chg cw52 (by omega)
 exact ⟨_, _, _, _, _, _, rfl, f60, f61, by omega, hrl, q59⟩

theorem c_sRatRest {w : World} {n1 : Bool} {v1 : Value} {lv1 uv1 : Nat} {z1 : List Int} {d1 : Value} {ld1 ud1 : Nat} {y1 : List Int} {m : Int} (hv1 : Sl w lv1 uv1 v1 (z1)) (hd1 : Sl w ld1 ud1 d1 (y1)) (h63 : z1.length ≤ 4611686018427387904 ∧ y1.length ≤ 4611686018427387904) :
  Ret Tryz.prog 99 [.agg #[.bool n1, v1, d1], .int .i64 m] w fun v w' => ∃ s t u ls us lt ut lu uu, v = .tuple #[.agg #[.bool ((rRest n1 z1 y1 m).1.1), s], .agg #[.bool ((rRest n1 z1 y1 m).2.1.1), t, u], .bool ((rRest n1 z1 y1 m).2.2)] ∧ OwnI w' (ls) (us) s intT ((rRest n1 z1 y1 m).1.2) ∧ OwnI w' (lt) (ut) t intT ((rRest n1 z1 y1 m).2.1.2.1) ∧ OwnI w' (lu) (uu) u intT ((rRest n1 z1 y1 m).2.1.2.2) ∧ (w.heap.size ≤ ls ∧ us ≤ w'.heap.size ∧ w.heap.size ≤ lt ∧ ut ≤ w'.heap.size ∧ w.heap.size ≤ lu ∧ uu ≤ w'.heap.size ∧ us ≤ lt ∧ us ≤ lu ∧ (ut ≤ lu ∨ uu ≤ lt)) ∧ ((rRest n1 z1 y1 m).1.2.length ≤ 19 ∧ (rRest n1 z1 y1 m).2.1.2.1.length ≤ 18 ∧ (rRest n1 z1 y1 m).2.1.2.2.length ≤ 18) ∧ Chg 0 0 w w' := by
 have hv10 := hv1.fit
 have hd10 := hd1.fit
 refine sx_enter Tryz.func99 rfl Tryz.ntmps99 (nbl rfl) ?_
 refine sx_seq fun K1 k1 => sx_region ?_
 refine sx_box [.bool n1, v1, d1] rfl rfl rfl (fun b2 w3 eb2 sb2 fb2 cb2 => ?_)
 have zw3 := cb2.size
 refine sx_alloc [.bool false, (.slice none 0 0)] rfl Tryz.zeroValue28 rfl (fun b4 w5 eb4 sb4 fb4 cb4 => ?_)
 have zw5 := cb4.size
 refine sx_alloc [.bool false, (.slice none 0 0), (.slice none 0 0)] rfl Tryz.zeroValue30 rfl (fun b6 w7 eb6 sb6 fb6 cb6 => ?_)
 have zw7 := cb6.size
 refine av rfl rfl (wl_nil (q_n (k1 _ _ ?_)))
 refine sx_seq fun K8 k8 => sx_region ?_
 have f9 := fb2.ext cb4
 have f10 := f9.ext cb6
 refine sp rfl (px_load rfl (f10.loadA (vs := [.bool n1, v1, d1]) (look_lit rfl) Tryz.isAgg30 Tryz.sizeOf30)) ?_
 refine mv rfl rfl ?_
 have f11 := hv10.ext cb2
 have f12 := f11.ext cb4
 have f13 := f12.ext cb6
 have f14 := hd10.ext cb2
 have f15 := f14.ext cb4
 have f16 := f15.ext cb6
 refine sx_call rfl rfl Tryz.call128 (c_sRatRound f13 f16 (by omega)) (fun v17 w17 p17 => ?_)
 obtain ⟨s17, rfl, os_17, hl17, c17⟩ := p17
 have zw17 := c17.size
 refine mv rfl rfl (sp rfl (px_ex2 rfl rfl) ?_)
 refine sp rfl (px_ex2 rfl rfl) ?_
 refine sx_alloc [.bool false, (.slice none 0 0)] rfl Tryz.zeroValue28 rfl (fun b18 w19 eb18 sb18 fb18 cb18 => ?_)
 have zw19 := cb18.size
 have f21 := os_17.ext cb18
 refine sx_store (vs := [.bool ((rRound n1 z1 y1 m).1), s17]) rfl rfl fb18 rfl Tryz.sizeOf28 (nbl rfl) (one_cons rfl (one_cons f21.one one_nil)) (fun w20 sw20 fw20 cw20 => ?_)
 have zw20 := cw20.size
 have gw20 : Blk w20 b18 [.bool ((rRound n1 z1 y1 m).1), s17] 28 := fw20
 refine av rfl rfl (wl_nil (q_n (k8 _ _ ?_)))
 refine sx_seq fun K22 k22 => sx_region ?_
 refine sp rfl (px_load rfl (gw20.loadA (vs := [.bool ((rRound n1 z1 y1 m).1), s17]) (look_lit rfl) Tryz.isAgg28 Tryz.sizeOf28)) ?_
 have f23 := f21.chg cw20 (by omega)
 refine sx_call rfl rfl Tryz.call29 (c_sRatInt f23.sv (by omega)) (fun v24 w24 p24 => ?_)
 obtain ⟨s24, t24, ls24, us24, lt24, ut24, rfl, os_24, ot_24, hd24, hl24, c24⟩ := p24
 have zw24 := c24.size
 refine mv rfl rfl (sp rfl (px_ex2 rfl rfl) ?_)
 refine sp rfl (px_ex2 rfl rfl) ?_
 refine sx_alloc [.bool false, (.slice none 0 0), (.slice none 0 0)] rfl Tryz.zeroValue30 rfl (fun b25 w26 eb25 sb25 fb25 cb25 => ?_)
 have zw26 := cb25.size
 have f28 := ot_24.ext cb25
 have f29 := os_24.ext cb25
 refine sx_store (vs := [.bool ((rInt ((rRound n1 z1 y1 m).1) ((rRound n1 z1 y1 m).2.1)).1), s24, t24]) rfl rfl fb25 rfl Tryz.sizeOf30 (nbl rfl) (one_cons rfl (one_cons f29.one (one_cons f28.one one_nil))) (fun w27 sw27 fw27 cw27 => ?_)
 have zw27 := cw27.size
 have gw27 : Blk w27 b25 [.bool ((rInt ((rRound n1 z1 y1 m).1) ((rRound n1 z1 y1 m).2.1)).1), s24, t24] 30 := fw27
 refine av rfl rfl (wl_nil (q_n (k22 _ _ ?_)))
 refine sx_sub (Sub.c 2 rfl (.c 4 rfl (.c 5 rfl (.c 6 rfl (.c 7 rfl (.c 8 rfl (.c 9 rfl (.c 10 rfl .nil)))))))) ?_
 refine sx_seq fun K30 k30 => sx_region ?_
 have f32 := (f10.ext c17).ext cb18
 have f33 := f32.chg cw20 (by omega)
 have f35 := (f33.ext c24).ext cb25
 have f36 := f35.chg cw27 (by omega)
 refine sp rfl (px_load rfl (f36.loadA (vs := [.bool n1, v1, d1]) (look_lit rfl) Tryz.isAgg30 Tryz.sizeOf30)) ?_
 refine sp rfl (px_load rfl (gw27.loadA (vs := [.bool ((rInt ((rRound n1 z1 y1 m).1) ((rRound n1 z1 y1 m).2.1)).1), s24, t24]) (look_lit rfl) Tryz.isAgg30 Tryz.sizeOf30)) ?_
 have f38 := (f13.ext c17).ext cb18
 have f39 := f38.chg cw20 (by omega)
 have f41 := (f39.ext c24).ext cb25
 have f42 := f41.chg cw27 (by omega)
 have f44 := (f16.ext c17).ext cb18
 have f45 := f44.chg cw20 (by omega)
 have f47 := (f45.ext c24).ext cb25
 have f48 := f47.chg cw27 (by omega)
 have f49 := f29.chg cw27 (by omega)
 have f50 := f28.chg cw27 (by omega)
 refine sx_call rfl rfl Tryz.call129 (c_sRatSub f42 f48 f49.sv f50.sv (by omega)) (fun v51 w51 p51 => ?_)
 obtain ⟨s51, t51, ls51, us51, lt51, ut51, rfl, os_51, ot_51, hd51, hl51, c51⟩ := p51
 have zw51 := c51.size
 refine mv rfl rfl (sp rfl (px_ex2 rfl rfl) ?_)
 refine sp rfl (px_ex2 rfl rfl) ?_
 refine sx_alloc [.bool false, (.slice none 0 0), (.slice none 0 0)] rfl Tryz.zeroValue30 rfl (fun b52 w53 eb52 sb52 fb52 cb52 => ?_)
 have zw53 := cb52.size
 have f55 := ot_51.ext cb52
 have f56 := os_51.ext cb52
 refine sx_store (vs := [.bool ((rSub n1 z1 y1 ((rInt ((rRound n1 z1 y1 m).1) ((rRound n1 z1 y1 m).2.1)).1) ((rInt ((rRound n1 z1 y1 m).1) ((rRound n1 z1 y1 m).2.1)).2.1) ((rInt ((rRound n1 z1 y1 m).1) ((rRound n1 z1 y1 m).2.1)).2.2.1)).1), s51, t51]) rfl rfl fb52 rfl Tryz.sizeOf30 (nbl rfl) (one_cons rfl (one_cons f56.one (one_cons f55.one one_nil))) (fun w54 sw54 fw54 cw54 => ?_)
 have zw54 := cw54.size
 have gw54 : Blk w54 b52 [.bool ((rSub n1 z1 y1 ((rInt ((rRound n1 z1 y1 m).1) ((rRound n1 z1 y1 m).2.1)).1) ((rInt ((rRound n1 z1 y1 m).1) ((rRound n1 z1 y1 m).2.1)).2.1) ((rInt ((rRound n1 z1 y1 m).1) ((rRound n1 z1 y1 m).2.1)).2.2.1)).1), s51, t51] 30 := fw54
 refine av rfl rfl (wl_nil (q_n (k30 _ _ ?_)))
 refine sx_sub (Sub.c 4 rfl (.c 5 rfl (.c 6 rfl (.c 7 rfl (.c 8 rfl (.c 10 rfl (.c 11 rfl (.c 12 rfl .nil)))))))) ?_
 refine sx_seq fun K57 k57 => ?_
 refine sx_seq fun K58 k58 => sx_region ?_
 refine mv rfl rfl (sp rfl (px_not rfl) ?_)
 refine mv rfl rfl ?_
 refine sx_tmpB (t := 32) rfl (fun h75 => ?_) (fun h75 => ?_)
 ·
  refine sx_guardF rfl rfl rfl rfl rfl rfl ?_
  refine sx_guardF rfl rfl rfl rfl rfl rfl ?_
  refine sp rfl (px_pick rfl rfl) ?_
  refine mv rfl rfl ?_
  refine sx_guardF rfl rfl rfl rfl rfl rfl ?_
  refine sx_guardF rfl rfl rfl rfl rfl rfl ?_
  refine sp rfl (px_pick rfl rfl) ?_
  refine wl_nil (q_n (k58 _ _ ?_))
  refine sx_sub (Sub.c 4 rfl (.c 5 rfl (.c 6 rfl (.c 7 rfl (.c 11 rfl (.c 39 rfl .nil)))))) ?_
  refine sx_condT rfl ?_
  refine sx_seq fun K59 k59 => sx_region ?_
  refine sp rfl (px_build rfl (xbld28x  _)) ?_
  refine sp rfl (px_build rfl (xbld30x  _)) ?_
  have f61 := fb4.ext cb6
  have f63 := (f61.ext c17).ext cb18
  have f64 := f63.chg cw20 (by omega)
  have f66 := (f64.ext c24).ext cb25
  have f67 := f66.chg cw27 (by omega)
  have f69 := (f67.ext c51).ext cb52
  have f70 := f69.chg cw54 (by omega)
  refine sx_store (vs := [.bool false, (.slice none 0 0)]) rfl rfl f70 rfl Tryz.sizeOf28 (nbl rfl) (o2 rfl rfl) (fun w60 sw60 fw60 cw60 => ?_)
  have zw60 := cw60.size
  have gw60 : Blk w60 b4 [.bool false, (.slice none 0 0)] 28 := fw60
  have f73 := (fb6.ext c17).ext cb18
  have f74 := f73.chg cw20 (by omega)
  have f76 := (f74.ext c24).ext cb25
  have f77 := f76.chg cw27 (by omega)
  have f79 := (f77.ext c51).ext cb52
  have f80 := f79.chg cw54 (by omega)
  have f81 := f80.chg cw60 (by omega)
  refine sx_store (vs := [.bool false, (.slice none 0 0), (.slice none 0 0)]) rfl rfl f81 rfl Tryz.sizeOf30 (nbl rfl) (o3 rfl rfl rfl) (fun w71 sw71 fw71 cw71 => ?_)
  have zw71 := cw71.size
  have gw71 : Blk w71 b6 [.bool false, (.slice none 0 0), (.slice none 0 0)] 30 := fw71
  refine av rfl rfl (wl_nil (q_n (k59 _ _ ?_)))
  refine sx_retc ?_
  have f82 := gw60.chg cw71 (by omega)
  refine q_r (sx_ret3 Tryz.results99 ⟨_, rfl, f82.loadA (vs := [.bool false, (.slice none 0 0)]) (look_lit rfl) Tryz.isAgg28 Tryz.sizeOf28⟩ ⟨_, rfl, gw71.loadA (vs := [.bool false, (.slice none 0 0), (.slice none 0 0)]) (look_lit rfl) Tryz.isAgg30 Tryz.sizeOf30⟩ rfl ?_)
  rw [rRest_no (fun hh => by first | exact bcl hh.1 h75 | exact bcl hh.2.1 h75x1 | exact bcl hh.2.2 h75x2)]
  have q83 := Chg.step (l := 0) (h := 0) (Chg.zero (l := 0) (h := 0) ((((cb2.t cb4).t cb6).t c17).t cb18)) cw20 (by omega)
  have q84 := Chg.step (l := 0) (h := 0) q83 (c24.t cb25) (by omega)
  have q85 := Chg.step (l := 0) (h := 0) q84 cw27 (by omega)
  have q86 := Chg.step (l := 0) (h := 0) q85 (c51.t cb52) (by omega)
  have q87 := Chg.step (l := 0) (h := 0) q86 cw54 (by omega)
  have q88 := Chg.step (l := 0) (h := 0) q87 cw60 (by omega)
  have q89 := Chg.step (l := 0) (h := 0) q88 cw71 (by omega)
  exact ⟨_, _, _, w.heap.size, w.heap.size, w.heap.size, w.heap.size, w.heap.size, w.heap.size, rfl, Own.nil _ _ _ _ _, Own.nil _ _ _ _ _, Own.nil _ _ _ _ _, by omega, ⟨by simp, by simp, by simp⟩, q89⟩
 refine sx_guardT rfl rfl rfl ?_
 refine mv rfl rfl ?_
 refine sx_guardT rfl rfl rfl ?_
 refine sp rfl (px_not rfl) ?_
 refine sp rfl (px_pick rfl rfl) ?_
 refine mv rfl rfl ?_
 refine sx_tmpB (t := 36) rfl (fun h75x1 => ?_) (fun h75x1 => ?_)
 ·
  refine sx_guardF rfl rfl rfl rfl rfl rfl ?_
  refine sx_guardF rfl rfl rfl rfl rfl rfl ?_
  refine sp rfl (px_pick rfl rfl) ?_
  refine wl_nil (q_n (k58 _ _ ?_))
  refine sx_sub (Sub.c 4 rfl (.c 5 rfl (.c 6 rfl (.c 7 rfl (.c 11 rfl (.c 39 rfl .nil)))))) ?_
  refine sx_condT rfl ?_
  refine sx_seq fun K90 k90 => sx_region ?_
  refine sp rfl (px_build rfl (xbld28x  _)) ?_
  refine sp rfl (px_build rfl (xbld30x  _)) ?_
  have f92 := fb4.ext cb6
  have f94 := (f92.ext c17).ext cb18
  have f95 := f94.chg cw20 (by omega)
  have f97 := (f95.ext c24).ext cb25
  have f98 := f97.chg cw27 (by omega)
  have f100 := (f98.ext c51).ext cb52
  have f101 := f100.chg cw54 (by omega)
  refine sx_store (vs := [.bool false, (.slice none 0 0)]) rfl rfl f101 rfl Tryz.sizeOf28 (nbl rfl) (o2 rfl rfl) (fun w91 sw91 fw91 cw91 => ?_)
  have zw91 := cw91.size
  have gw91 : Blk w91 b4 [.bool false, (.slice none 0 0)] 28 := fw91
  have f104 := (fb6.ext c17).ext cb18
  have f105 := f104.chg cw20 (by omega)
  have f107 := (f105.ext c24).ext cb25
  have f108 := f107.chg cw27 (by omega)
  have f110 := (f108.ext c51).ext cb52
  have f111 := f110.chg cw54 (by omega)
  have f112 := f111.chg cw91 (by omega)
  refine sx_store (vs := [.bool false, (.slice none 0 0), (.slice none 0 0)]) rfl rfl f112 rfl Tryz.sizeOf30 (nbl rfl) (o3 rfl rfl rfl) (fun w102 sw102 fw102 cw102 => ?_)
  have zw102 := cw102.size
  have gw102 : Blk w102 b6 [.bool false, (.slice none 0 0), (.slice none 0 0)] 30 := fw102
  refine av rfl rfl (wl_nil (q_n (k90 _ _ ?_)))
  refine sx_retc ?_
  have f113 := gw91.chg cw102 (by omega)
  refine q_r (sx_ret3 Tryz.results99 ⟨_, rfl, f113.loadA (vs := [.bool false, (.slice none 0 0)]) (look_lit rfl) Tryz.isAgg28 Tryz.sizeOf28⟩ ⟨_, rfl, gw102.loadA (vs := [.bool false, (.slice none 0 0), (.slice none 0 0)]) (look_lit rfl) Tryz.isAgg30 Tryz.sizeOf30⟩ rfl ?_)
  rw [rRest_no (fun hh => by first | exact bcl hh.1 h75 | exact bcl hh.2.1 h75x1 | exact bcl hh.2.2 h75x2)]
  have q114 := Chg.step (l := 0) (h := 0) (Chg.zero (l := 0) (h := 0) ((((cb2.t cb4).t cb6).t c17).t cb18)) cw20 (by omega)
  have q115 := Chg.step (l := 0) (h := 0) q114 (c24.t cb25) (by omega)
  have q116 := Chg.step (l := 0) (h := 0) q115 cw27 (by omega)
  have q117 := Chg.step (l := 0) (h := 0) q116 (c51.t cb52) (by omega)
  have q118 := Chg.step (l := 0) (h := 0) q117 cw54 (by omega)
  have q119 := Chg.step (l := 0) (h := 0) q118 cw91 (by omega)
  have q120 := Chg.step (l := 0) (h := 0) q119 cw102 (by omega)
  exact ⟨_, _, _, w.heap.size, w.heap.size, w.heap.size, w.heap.size, w.heap.size, w.heap.size, rfl, Own.nil _ _ _ _ _, Own.nil _ _ _ _ _, Own.nil _ _ _ _ _, by omega, ⟨by simp, by simp, by simp⟩, q120⟩
 refine sx_guardT rfl rfl rfl ?_
 refine mv rfl rfl ?_
 refine sx_guardT rfl rfl rfl ?_
 refine sp rfl (px_not rfl) ?_
 refine sp rfl (px_pick rfl rfl) ?_
 refine wl_nil (q_n (k58 _ _ ?_))
 refine sx_sub (Sub.c 4 rfl (.c 5 rfl (.c 6 rfl (.c 7 rfl (.c 11 rfl (.c 39 rfl .nil)))))) ?_
 refine sx_condB rfl (fun h75x2 => ?_) (fun h75x2 => ?_)
 ·
  refine sx_seq fun K121 k121 => sx_region ?_
  refine sp rfl (px_build rfl (xbld28x  _)) ?_
  refine sp rfl (px_build rfl (xbld30x  _)) ?_
  have f123 := fb4.ext cb6
  have f125 := (f123.ext c17).ext cb18
  have f126 := f125.chg cw20 (by omega)
  have f128 := (f126.ext c24).ext cb25
  have f129 := f128.chg cw27 (by omega)
  have f131 := (f129.ext c51).ext cb52
  have f132 := f131.chg cw54 (by omega)
  refine sx_store (vs := [.bool false, (.slice none 0 0)]) rfl rfl f132 rfl Tryz.sizeOf28 (nbl rfl) (o2 rfl rfl) (fun w122 sw122 fw122 cw122 => ?_)
  have zw122 := cw122.size
  have gw122 : Blk w122 b4 [.bool false, (.slice none 0 0)] 28 := fw122
  have f135 := (fb6.ext c17).ext cb18
  have f136 := f135.chg cw20 (by omega)
  have f138 := (f136.ext c24).ext cb25
  have f139 := f138.chg cw27 (by omega)
  have f141 := (f139.ext c51).ext cb52
  have f142 := f141.chg cw54 (by omega)
  have f143 := f142.chg cw122 (by omega)
  refine sx_store (vs := [.bool false, (.slice none 0 0), (.slice none 0 0)]) rfl rfl f143 rfl Tryz.sizeOf30 (nbl rfl) (o3 rfl rfl rfl) (fun w133 sw133 fw133 cw133 => ?_)
  have zw133 := cw133.size
  have gw133 : Blk w133 b6 [.bool false, (.slice none 0 0), (.slice none 0 0)] 30 := fw133
  refine av rfl rfl (wl_nil (q_n (k121 _ _ ?_)))
  refine sx_retc ?_
  have f144 := gw122.chg cw133 (by omega)
  refine q_r (sx_ret3 Tryz.results99 ⟨_, rfl, f144.loadA (vs := [.bool false, (.slice none 0 0)]) (look_lit rfl) Tryz.isAgg28 Tryz.sizeOf28⟩ ⟨_, rfl, gw133.loadA (vs := [.bool false, (.slice none 0 0), (.slice none 0 0)]) (look_lit rfl) Tryz.isAgg30 Tryz.sizeOf30⟩ rfl ?_)
  rw [rRest_no (fun hh => by first | exact bcl hh.1 h75 | exact bcl hh.2.1 h75x1 | exact bcl hh.2.2 h75x2)]
  have q145 := Chg.step (l := 0) (h := 0) (Chg.zero (l := 0) (h := 0) ((((cb2.t cb4).t cb6).t c17).t cb18)) cw20 (by omega)
  have q146 := Chg.step (l := 0) (h := 0) q145 (c24.t cb25) (by omega)
  have q147 := Chg.step (l := 0) (h := 0) q146 cw27 (by omega)
  have q148 := Chg.step (l := 0) (h := 0) q147 (c51.t cb52) (by omega)
  have q149 := Chg.step (l := 0) (h := 0) q148 cw54 (by omega)
  have q150 := Chg.step (l := 0) (h := 0) q149 cw122 (by omega)
  have q151 := Chg.step (l := 0) (h := 0) q150 cw133 (by omega)
  exact ⟨_, _, _, w.heap.size, w.heap.size, w.heap.size, w.heap.size, w.heap.size, w.heap.size, rfl, Own.nil _ _ _ _ _, Own.nil _ _ _ _ _, Own.nil _ _ _ _ _, by omega, ⟨by simp, by simp, by simp⟩, q151⟩
 refine sx_skip ?_
 refine q_n (k57 _ _ ?_)
 refine sx_seq fun K152 k152 => ?_
 have f154 := (f36.ext c51).ext cb52
 have f155 := f154.chg cw54 (by omega)
 have f157 := (gw20.ext c24).ext cb25
 have f158 := f157.chg cw27 (by omega)
 have f160 := (f158.ext c51).ext cb52
 have f161 := f160.chg cw54 (by omega)
 have f163 := (gw27.ext c51).ext cb52
 have f164 := f163.chg cw54 (by omega)
 have f166 := (f42.ext c51).ext cb52
 have f167 := f166.chg cw54 (by omega)
 have f169 := (f48.ext c51).ext cb52
 have f170 := f169.chg cw54 (by omega)
 have f172 := (f23.ext c24).ext cb25
 have f173 := f172.chg cw27 (by omega)
 have f175 := (f173.ext c51).ext cb52
 have f176 := f175.chg cw54 (by omega)
 have f178 := (f49.ext c51).ext cb52
 have f179 := f178.chg cw54 (by omega)
 have f181 := (f50.ext c51).ext cb52
 have f182 := f181.chg cw54 (by omega)
 have f183 := f56.chg cw54 (by omega)
 have f184 := f55.chg cw54 (by omega)
 refine dx_region (fun w' => Chg b4 (b6 + 1) w54 w') (by kernel_rfl) (Chg.zero (Chg.drew _)) ?_
 have d185 := Chg.drew w54
 have s185 : Chg b4 (b6 + 1) w54 (World.drew w54) := Chg.zero (Chg.drew _)
 have y185 : (World.drew w54).heap.size = w54.heap.size := rfl
 generalize World.drew w54 = w185 at *
 have zw185 := d185.size
 refine dt 0 rfl rfl rfl rfl s185 (fun _ hS => px_load rfl ((f161.chg hS (by omega)).loadA (vs := [.bool ((rRound n1 z1 y1 m).1), s17]) (look_lit rfl) Tryz.isAgg28 Tryz.sizeOf28)) ?_
 refine dt 1 rfl rfl rfl rfl s185 (fun _ hS => px_load rfl ((gw54.chg hS (by omega)).loadA (vs := [.bool ((rSub n1 z1 y1 ((rInt ((rRound n1 z1 y1 m).1) ((rRound n1 z1 y1 m).2.1)).1) ((rInt ((rRound n1 z1 y1 m).1) ((rRound n1 z1 y1 m).2.1)).2.1) ((rInt ((rRound n1 z1 y1 m).1) ((rRound n1 z1 y1 m).2.1)).2.2.1)).1), s51, t51]) (look_lit rfl) Tryz.isAgg30 Tryz.sizeOf30)) ?_
 refine dx_eff 2 rfl (by kernel_rfl) ?_
 have f187 := fb4.ext cb6
 have f189 := (f187.ext c17).ext cb18
 have f190 := f189.chg cw20 (by omega)
 have f192 := (f190.ext c24).ext cb25
 have f193 := f192.chg cw27 (by omega)
 have f195 := (f193.ext c51).ext cb52
 have f196 := f195.chg cw54 (by omega)
 have f197 := f196.ext d185
 have f198 := f176.ext d185
 refine sx_store (vs := [.bool ((rRound n1 z1 y1 m).1), s17]) rfl rfl f197 rfl Tryz.sizeOf28 (nbl rfl) (one_cons rfl (one_cons f198.one one_nil)) (fun w186 sw186 fw186 cw186 => ?_)
 have zw186 := cw186.size
 have gw186 : Blk w186 b4 [.bool ((rRound n1 z1 y1 m).1), s17] 28 := fw186
 have q200 := Chg.step (l := b4) (h := (b6 + 1)) (Chg.zero (l := b4) (h := (b6 + 1)) d185) cw186 (by omega)
 have s199 : Chg b4 (b6 + 1) w54 w186 := q200
 refine wl_nil ?_
 refine dx_next s199 ?_
 refine dx_eff 3 rfl (by kernel_rfl) ?_
 have f203 := (fb6.ext c17).ext cb18
 have f204 := f203.chg cw20 (by omega)
 have f206 := (f204.ext c24).ext cb25
 have f207 := f206.chg cw27 (by omega)
 have f209 := (f207.ext c51).ext cb52
 have f210 := f209.chg cw54 (by omega)
 have f212 := (f210.ext d185).chg cw186 (by omega)
 have f214 := (f184.ext d185).chg cw186 (by omega)
 have f216 := (f183.ext d185).chg cw186 (by omega)
 refine sx_store (vs := [.bool ((rSub n1 z1 y1 ((rInt ((rRound n1 z1 y1 m).1) ((rRound n1 z1 y1 m).2.1)).1) ((rInt ((rRound n1 z1 y1 m).1) ((rRound n1 z1 y1 m).2.1)).2.1) ((rInt ((rRound n1 z1 y1 m).1) ((rRound n1 z1 y1 m).2.1)).2.2.1)).1), s51, t51]) rfl rfl f212 rfl Tryz.sizeOf30 (nbl rfl) (one_cons rfl (one_cons f216.one (one_cons f214.one one_nil))) (fun w201 sw201 fw201 cw201 => ?_)
 have zw201 := cw201.size
 have gw201 : Blk w201 b6 [.bool ((rSub n1 z1 y1 ((rInt ((rRound n1 z1 y1 m).1) ((rRound n1 z1 y1 m).2.1)).1) ((rInt ((rRound n1 z1 y1 m).1) ((rRound n1 z1 y1 m).2.1)).2.1) ((rInt ((rRound n1 z1 y1 m).1) ((rRound n1 z1 y1 m).2.1)).2.2.1)).1), s51, t51] 30 := fw201
 have q218 := Chg.step (l := b4) (h := (b6 + 1)) (Chg.zero (l := b4) (h := (b6 + 1)) d185) cw186 (by omega)
 have q219 := Chg.step (l := b4) (h := (b6 + 1)) q218 cw201 (by omega)
 have s217 : Chg b4 (b6 + 1) w54 w201 := q219
 refine wl_nil ?_
 refine dx_next s217 ?_
 refine dt 4 rfl rfl rfl rfl s217 (fun _ hS => px_assign rfl) ?_
 refine dx_done (by kernel_rfl) ?_
 refine q_n (k152 _ _ ?_)
 refine sx_retc ?_
 have f220 := gw186.chg cw201 (by omega)
 refine sx_ret3 Tryz.results99 ⟨_, rfl, f220.loadA (vs := [.bool ((rRound n1 z1 y1 m).1), s17]) (look_lit rfl) Tryz.isAgg28 Tryz.sizeOf28⟩ ⟨_, rfl, gw201.loadA (vs := [.bool ((rSub n1 z1 y1 ((rInt ((rRound n1 z1 y1 m).1) ((rRound n1 z1 y1 m).2.1)).1) ((rInt ((rRound n1 z1 y1 m).1) ((rRound n1 z1 y1 m).2.1)).2.1) ((rInt ((rRound n1 z1 y1 m).1) ((rRound n1 z1 y1 m).2.1)).2.2.1)).1), s51, t51]) (look_lit rfl) Tryz.isAgg30 Tryz.sizeOf30⟩ rfl ?_
 have hrl := rRest_len (n := n1) (z := z1) (y := y1) (m := m)
 rw [rRest_ok (bnot_f h75) (bnot_f h75x1) (bnot_f h75x2)] at hrl ⊢
 have q221 := Chg.step (l := 0) (h := 0) (Chg.zero (l := 0) (h := 0) ((((cb2.t cb4).t cb6).t c17).t cb18)) cw20 (by omega)
 have q222 := Chg.step (l := 0) (h := 0) q221 (c24.t cb25) (by omega)
 have q223 := Chg.step (l := 0) (h := 0) q222 cw27 (by omega)
 have q224 := Chg.step (l := 0) (h := 0) q223 (c51.t cb52) (by omega)
 have q225 := Chg.step (l := 0) (h := 0) q224 cw54 (by omega)
 have q226 := Chg.step (l := 0) (h := 0) q225 d185 (by omega)
 have q227 := Chg.step (l := 0) (h := 0) q226 cw186 (by omega)
 have q228 := Chg.step (l := 0) (h := 0) q227 cw201 (by omega)
 have f229 := f198.chg cw186 (by omega)
 have f230 := f229.chg cw201 (by omega)
 have f231 := f216.chg cw201 (by omega)
 have f232 := f214.chg cw201 (by omega)
 exact ⟨_, _, _, _, _, _, _, _, _, rfl, f230, f231, f232, by omega, hrl, q228⟩

theorem c_l09Make {w : World} {c : ByteArray} {va : Value} {lva uva : Nat} {x : Int} (hva : OwnI w lva uva va intT (dg x.natAbs)) (hbx : (dg x.natAbs).length ≤ 1000) (hu : uva ≤ w.heap.size) :
  Ret Tryz.prog 100 [.string c, .agg #[.bool (ng x), va]] w fun v w' => ∃ s, v = .tuple #[.agg #[.string ((mR c x).1), .bool ((mR c x).2.1), s], .bool ((mR c x).2.2.2)] ∧ OwnI w' (lva) (uva) s intT ((mR c x).2.2.1) ∧ Chg 0 0 w w' := by
 refine sx_enter Tryz.func100 rfl Tryz.ntmps100 (nbl rfl) ?_
 refine sx_seq fun K1 k1 => sx_region ?_
 refine sx_box [.bool (ng x), va] rfl rfl rfl (fun b2 w3 eb2 sb2 fb2 cb2 => ?_)
 have zw3 := cb2.size
 refine sx_alloc [.string (⟨#[]⟩), .bool false, (.slice none 0 0)] rfl Tryz.zeroValue48 rfl (fun b4 w5 eb4 sb4 fb4 cb4 => ?_)
 have zw5 := cb4.size
 refine av rfl rfl (wl_nil (q_n (k1 _ _ ?_)))
 refine sx_seq fun K6 k6 => sx_region ?_
 refine mv rfl rfl ?_
 have f7 := fb2.ext cb4
 refine sp rfl (px_load rfl (f7.loadA (vs := [.bool (ng x), va]) (look_lit rfl) Tryz.isAgg28 Tryz.sizeOf28)) ?_
 refine sp rfl (px_build rfl (xbld48x0x1 rfl _)) ?_
 refine sx_alloc [.string (⟨#[]⟩), .bool false, (.slice none 0 0)] rfl Tryz.zeroValue48 rfl (fun b8 w9 eb8 sb8 fb8 cb8 => ?_)
 have zw9 := cb8.size
 have f11 := hva.ext cb2
 have f12 := f11.ext cb4
 have f13 := f12.ext cb8
 refine sx_store (vs := [.string c, .bool (ng x), va]) rfl rfl fb8 rfl Tryz.sizeOf48 (nbl rfl) (one_cons rfl (one_cons rfl (one_cons f13.one one_nil))) (fun w10 sw10 fw10 cw10 => ?_)
 have zw10 := cw10.size
 have gw10 : Blk w10 b8 [.string c, .bool (ng x), va] 48 := fw10
 refine wl_nil (q_n (k6 _ _ ?_))
 refine sx_seq fun K14 k14 => ?_
 refine sx_seq fun K15 k15 => sx_region ?_
 refine sp rfl (px_load rfl (gw10.loadA (vs := [.string c, .bool (ng x), va]) (look_lit rfl) Tryz.isAgg48 Tryz.sizeOf48)) ?_
 have f16 := f13.chg cw10 (by omega)
 refine sx_call rfl rfl Tryz.call57 (c_sMoneyOk f16.sv (by omega)) (fun v17 w17 p17 => ?_)
 obtain ⟨rfl, c17⟩ := p17
 have zw17 := c17.size
 refine sp rfl (px_notP rfl) ?_
 refine wl_nil (q_n (k15 _ _ ?_))
 refine sx_condP rfl (fun h13 => ?_) (fun h13 => ?_)
 ·
  refine sx_seq fun K18 k18 => sx_region ?_
  refine sp rfl (px_build rfl (xbld48x  _)) ?_
  have f20 := fb4.ext cb8
  have f21 := f20.chg cw10 (by omega)
  have f22 := f21.ext c17
  refine sx_store (vs := [.string (⟨#[]⟩), .bool false, (.slice none 0 0)]) rfl rfl f22 rfl Tryz.sizeOf48 (nbl rfl) (o3 rfl rfl rfl) (fun w19 sw19 fw19 cw19 => ?_)
  have zw19 := cw19.size
  have gw19 : Blk w19 b4 [.string (⟨#[]⟩), .bool false, (.slice none 0 0)] 48 := fw19
  refine av rfl rfl (wl_nil (q_n (k18 _ _ ?_)))
  refine sx_retc ?_
  refine q_r (sx_ret2 Tryz.results100 ⟨_, rfl, gw19.loadA (vs := [.string (⟨#[]⟩), .bool false, (.slice none 0 0)]) (look_lit rfl) Tryz.isAgg48 Tryz.sizeOf48⟩ rfl ?_)
  rw [mR_no (by first | exact h13 | assumption)]
  have q23 := Chg.step (l := 0) (h := 0) (Chg.zero (l := 0) (h := 0) ((cb2.t cb4).t cb8)) cw10 (by omega)
  have q24 := Chg.step (l := 0) (h := 0) q23 c17 (by omega)
  have q25 := Chg.step (l := 0) (h := 0) q24 cw19 (by omega)
  exact ⟨_, rfl, Own.nil _ _ _ _ _, q25⟩
 refine sx_skip ?_
 refine q_n (k14 _ _ ?_)
 refine sx_seq fun K26 k26 => sx_region ?_
 have f27 := gw10.ext c17
 refine sp rfl (px_load rfl (f27.loadA (vs := [.string c, .bool (ng x), va]) (look_lit rfl) Tryz.isAgg48 Tryz.sizeOf48)) ?_
 have f29 := fb4.ext cb8
 have f30 := f29.chg cw10 (by omega)
 have f31 := f30.ext c17
 have f32 := f16.ext c17
 refine sx_store (vs := [.string c, .bool (ng x), va]) rfl rfl f31 rfl Tryz.sizeOf48 (nbl rfl) (one_cons rfl (one_cons rfl (one_cons f32.one one_nil))) (fun w28 sw28 fw28 cw28 => ?_)
 have zw28 := cw28.size
 have gw28 : Blk w28 b4 [.string c, .bool (ng x), va] 48 := fw28
 refine av rfl rfl (wl_nil (q_n (k26 _ _ ?_)))
 refine sx_retc ?_
 refine sx_ret2 Tryz.results100 ⟨_, rfl, gw28.loadA (vs := [.string c, .bool (ng x), va]) (look_lit rfl) Tryz.isAgg48 Tryz.sizeOf48⟩ rfl ?_
 rw [mR_ok (by first | exact h13 | exact Decidable.not_not.1 h13)]
 have q33 := Chg.step (l := 0) (h := 0) (Chg.zero (l := 0) (h := 0) ((cb2.t cb4).t cb8)) cw10 (by omega)
 have q34 := Chg.step (l := 0) (h := 0) q33 c17 (by omega)
 have q35 := Chg.step (l := 0) (h := 0) q34 cw28 (by omega)
 have f36 := f32.chg cw28 (by omega)
 exact ⟨_, rfl, (Own.mono f36 (by omega) (by omega)), q35⟩

theorem c_sRatMoney {w : World} {cc : ByteArray} {n1 : Bool} {v1 : Value} {lv1 uv1 : Nat} {z1 : List Int} {d1 : Value} {ld1 ud1 : Nat} {y1 : List Int} {m : Int} (hv1 : Sl w lv1 uv1 v1 (z1)) (hd1 : Sl w ld1 ud1 d1 (y1)) (h63 : z1.length ≤ 4611686018427387904 ∧ y1.length ≤ 4611686018427387904) :
  Ret Tryz.prog 62 [.string cc, .agg #[.bool n1, v1, d1], .int .i64 m] w fun v w' => ∃ s t u ls us lt ut lu uu, v = .tuple #[.agg #[.string ((rMon cc n1 z1 y1 m).1.1), .bool ((rMon cc n1 z1 y1 m).1.2.1), s], .agg #[.bool ((rMon cc n1 z1 y1 m).2.1.1), t, u], .bool ((rMon cc n1 z1 y1 m).2.2)] ∧ OwnI w' (ls) (us) s intT ((rMon cc n1 z1 y1 m).1.2.2) ∧ OwnI w' (lt) (ut) t intT ((rMon cc n1 z1 y1 m).2.1.2.1) ∧ OwnI w' (lu) (uu) u intT ((rMon cc n1 z1 y1 m).2.1.2.2) ∧ (w.heap.size ≤ ls ∧ us ≤ w'.heap.size ∧ w.heap.size ≤ lt ∧ ut ≤ w'.heap.size ∧ w.heap.size ≤ lu ∧ uu ≤ w'.heap.size ∧ us ≤ lt ∧ us ≤ lu ∧ (ut ≤ lu ∨ uu ≤ lt)) ∧ ((rMon cc n1 z1 y1 m).1.2.2.length ≤ 4 ∧ (rMon cc n1 z1 y1 m).2.1.2.1.length ≤ 18 ∧ (rMon cc n1 z1 y1 m).2.1.2.2.length ≤ 18) ∧ Chg 0 0 w w' := by
 have hv10 := hv1.fit
 have hd10 := hd1.fit
 obtain ⟨Q, hQ1, hQ2⟩ := rRest_int n1 z1 y1 m
 have hQl := (rRest_len (n := n1) (z := z1) (y := y1) (m := m)).1
 rw [hQ2] at hQl
 refine sx_enter Tryz.func62 rfl Tryz.ntmps62 (nbl rfl) ?_
 refine sx_seq fun K1 k1 => sx_region ?_
 refine sx_box [.bool n1, v1, d1] rfl rfl rfl (fun b2 w3 eb2 sb2 fb2 cb2 => ?_)
 have zw3 := cb2.size
 refine sx_alloc [.string (⟨#[]⟩), .bool false, (.slice none 0 0)] rfl Tryz.zeroValue48 rfl (fun b4 w5 eb4 sb4 fb4 cb4 => ?_)
 have zw5 := cb4.size
 refine sx_alloc [.bool false, (.slice none 0 0), (.slice none 0 0)] rfl Tryz.zeroValue30 rfl (fun b6 w7 eb6 sb6 fb6 cb6 => ?_)
 have zw7 := cb6.size
 refine av rfl rfl (wl_nil (q_n (k1 _ _ ?_)))
 refine sx_seq fun K8 k8 => sx_region ?_
 have f9 := fb2.ext cb4
 have f10 := f9.ext cb6
 refine sp rfl (px_load rfl (f10.loadA (vs := [.bool n1, v1, d1]) (look_lit rfl) Tryz.isAgg30 Tryz.sizeOf30)) ?_
 refine mv rfl rfl ?_
 have f11 := hv10.ext cb2
 have f12 := f11.ext cb4
 have f13 := f12.ext cb6
 have f14 := hd10.ext cb2
 have f15 := f14.ext cb4
 have f16 := f15.ext cb6
 refine sx_call rfl rfl Tryz.call99 (c_sRatRest f13 f16 (by omega)) (fun v17 w17 p17 => ?_)
 obtain ⟨s17, t17, u17, ls17, us17, lt17, ut17, lu17, uu17, rfl, os_17, ot_17, ou_17, hd17, hl17, c17⟩ := p17
 have zw17 := c17.size
 refine mv rfl rfl (sp rfl (px_ex3 rfl rfl) ?_)
 refine sp rfl (px_ex3 rfl rfl) ?_
 refine sp rfl (px_ex3 rfl rfl) ?_
 refine sx_alloc [.bool false, (.slice none 0 0)] rfl Tryz.zeroValue28 rfl (fun b18 w19 eb18 sb18 fb18 cb18 => ?_)
 have zw19 := cb18.size
 refine sx_alloc [.bool false, (.slice none 0 0), (.slice none 0 0)] rfl Tryz.zeroValue30 rfl (fun b20 w21 eb20 sb20 fb20 cb20 => ?_)
 have zw21 := cb20.size
 have f23 := fb18.ext cb20
 have f24 := os_17.ext cb18
 have f25 := f24.ext cb20
 refine sx_store (vs := [.bool ((rRest n1 z1 y1 m).1.1), s17]) rfl rfl f23 rfl Tryz.sizeOf28 (nbl rfl) (one_cons rfl (one_cons f25.one one_nil)) (fun w22 sw22 fw22 cw22 => ?_)
 have zw22 := cw22.size
 have gw22 : Blk w22 b18 [.bool ((rRest n1 z1 y1 m).1.1), s17] 28 := fw22
 have f27 := fb20.chg cw22 (by omega)
 have f28 := ou_17.ext cb18
 have f29 := f28.ext cb20
 have f30 := f29.chg cw22 (by omega)
 have f31 := ot_17.ext cb18
 have f32 := f31.ext cb20
 have f33 := f32.chg cw22 (by omega)
 refine sx_store (vs := [.bool ((rRest n1 z1 y1 m).2.1.1), t17, u17]) rfl rfl f27 rfl Tryz.sizeOf30 (nbl rfl) (one_cons rfl (one_cons f33.one (one_cons f30.one one_nil))) (fun w26 sw26 fw26 cw26 => ?_)
 have zw26 := cw26.size
 have gw26 : Blk w26 b20 [.bool ((rRest n1 z1 y1 m).2.1.1), t17, u17] 30 := fw26
 refine av rfl rfl (wl_nil (q_n (k8 _ _ ?_)))
 refine sx_sub (Sub.c 0 rfl (.c 6 rfl (.c 7 rfl (.c 8 rfl (.c 9 rfl (.c 10 rfl (.c 11 rfl .nil))))))) ?_
 refine sx_seq fun K34 k34 => ?_
 have f35 := f25.chg cw22 (by omega)
 have f36 := f35.chg cw26 (by omega)
 have f37 := f36
 rw [hQ2] at f37
 have f38 := gw22.chg cw26 (by omega)
 have f39 := f38
 rw [hQ1] at f39
 refine sx_region ?_
 refine mv rfl rfl (sp rfl (px_load rfl (f39.loadA (vs := [.bool (ng Q), s17]) (look_lit rfl) Tryz.isAgg28 Tryz.sizeOf28)) ?_)
 refine sx_call rfl rfl Tryz.call100 (c_l09Make f37 (by omega) (by omega)) (fun v40 w40 p40 => ?_)
 obtain ⟨s40, rfl, os_40, c40⟩ := p40
 have zw40 := c40.size
 refine mv rfl rfl (sp rfl (px_ex2 rfl rfl) ?_)
 refine sp rfl (px_ex2 rfl rfl) ?_
 refine sx_alloc [.string (⟨#[]⟩), .bool false, (.slice none 0 0)] rfl Tryz.zeroValue48 rfl (fun b41 w42 eb41 sb41 fb41 cb41 => ?_)
 have zw42 := cb41.size
 have f44 := os_40.ext cb41
 refine sx_store (vs := [.string ((mR cc (Q)).1), .bool ((mR cc (Q)).2.1), s40]) rfl rfl fb41 rfl Tryz.sizeOf48 (nbl rfl) (one_cons rfl (one_cons rfl (one_cons f44.one one_nil))) (fun w43 sw43 fw43 cw43 => ?_)
 have zw43 := cw43.size
 have gw43 : Blk w43 b41 [.string ((mR cc (Q)).1), .bool ((mR cc (Q)).2.1), s40] 48 := fw43
 refine av rfl rfl (wl_nil (q_n (k34 _ _ ?_)))
 refine sx_sub (Sub.c 6 rfl (.c 7 rfl (.c 8 rfl (.c 10 rfl (.c 11 rfl (.c 12 rfl (.c 13 rfl .nil))))))) ?_
 refine sx_seq fun K45 k45 => ?_
 refine sx_seq fun K46 k46 => sx_region ?_
 refine mv rfl rfl (sp rfl (px_not rfl) ?_)
 refine mv rfl rfl ?_
 refine sx_tmpB (t := 29) rfl (fun h108 => ?_) (fun h108 => ?_)
 ·
  refine sx_guardF rfl rfl rfl rfl rfl rfl ?_
  refine sx_guardF rfl rfl rfl rfl rfl rfl ?_
  refine sp rfl (px_pick rfl rfl) ?_
  refine wl_nil (q_n (k46 _ _ ?_))
  refine sx_condT rfl ?_
  refine sx_seq fun K47 k47 => sx_region ?_
  refine sp rfl (px_build rfl (xbld48x  _)) ?_
  refine sp rfl (px_build rfl (xbld30x  _)) ?_
  have f49 := fb4.ext cb6
  have f51 := (f49.ext c17).ext cb18
  have f52 := f51.ext cb20
  have f53 := f52.chg cw22 (by omega)
  have f54 := f53.chg cw26 (by omega)
  have f56 := (f54.ext c40).ext cb41
  have f57 := f56.chg cw43 (by omega)
  refine sx_store (vs := [.string (⟨#[]⟩), .bool false, (.slice none 0 0)]) rfl rfl f57 rfl Tryz.sizeOf48 (nbl rfl) (o3 rfl rfl rfl) (fun w48 sw48 fw48 cw48 => ?_)
  have zw48 := cw48.size
  have gw48 : Blk w48 b4 [.string (⟨#[]⟩), .bool false, (.slice none 0 0)] 48 := fw48
  have f60 := (fb6.ext c17).ext cb18
  have f61 := f60.ext cb20
  have f62 := f61.chg cw22 (by omega)
  have f63 := f62.chg cw26 (by omega)
  have f65 := (f63.ext c40).ext cb41
  have f66 := f65.chg cw43 (by omega)
  have f67 := f66.chg cw48 (by omega)
  refine sx_store (vs := [.bool false, (.slice none 0 0), (.slice none 0 0)]) rfl rfl f67 rfl Tryz.sizeOf30 (nbl rfl) (o3 rfl rfl rfl) (fun w58 sw58 fw58 cw58 => ?_)
  have zw58 := cw58.size
  have gw58 : Blk w58 b6 [.bool false, (.slice none 0 0), (.slice none 0 0)] 30 := fw58
  refine av rfl rfl (wl_nil (q_n (k47 _ _ ?_)))
  refine sx_sub (Sub.c 6 rfl (.c 7 rfl (.c 8 rfl (.c 10 rfl (.c 12 rfl .nil))))) ?_
  refine sx_retc ?_
  have f68 := gw48.chg cw58 (by omega)
  refine q_r (sx_ret3 Tryz.results62 ⟨_, rfl, f68.loadA (vs := [.string (⟨#[]⟩), .bool false, (.slice none 0 0)]) (look_lit rfl) Tryz.isAgg48 Tryz.sizeOf48⟩ ⟨_, rfl, gw58.loadA (vs := [.bool false, (.slice none 0 0), (.slice none 0 0)]) (look_lit rfl) Tryz.isAgg30 Tryz.sizeOf30⟩ rfl ?_)
  rw [rMon_no hQ1 hQ2 (fun hh => by first | exact bcl hh.1 h108 | exact bcl hh.2 h108x1)]
  have q69 := Chg.step (l := 0) (h := 0) (Chg.zero (l := 0) (h := 0) (((((cb2.t cb4).t cb6).t c17).t cb18).t cb20)) cw22 (by omega)
  have q70 := Chg.step (l := 0) (h := 0) q69 cw26 (by omega)
  have q71 := Chg.step (l := 0) (h := 0) q70 (c40.t cb41) (by omega)
  have q72 := Chg.step (l := 0) (h := 0) q71 cw43 (by omega)
  have q73 := Chg.step (l := 0) (h := 0) q72 cw48 (by omega)
  have q74 := Chg.step (l := 0) (h := 0) q73 cw58 (by omega)
  exact ⟨_, _, _, w.heap.size, w.heap.size, w.heap.size, w.heap.size, w.heap.size, w.heap.size, rfl, Own.nil _ _ _ _ _, Own.nil _ _ _ _ _, Own.nil _ _ _ _ _, by omega, ⟨by simp, by simp, by simp⟩, q74⟩
 refine sx_guardT rfl rfl rfl ?_
 refine mv rfl rfl ?_
 refine sx_guardT rfl rfl rfl ?_
 refine sp rfl (px_not rfl) ?_
 refine sp rfl (px_pick rfl rfl) ?_
 refine wl_nil (q_n (k46 _ _ ?_))
 refine sx_condB rfl (fun h108x1 => ?_) (fun h108x1 => ?_)
 ·
  refine sx_seq fun K75 k75 => sx_region ?_
  refine sp rfl (px_build rfl (xbld48x  _)) ?_
  refine sp rfl (px_build rfl (xbld30x  _)) ?_
  have f77 := fb4.ext cb6
  have f79 := (f77.ext c17).ext cb18
  have f80 := f79.ext cb20
  have f81 := f80.chg cw22 (by omega)
  have f82 := f81.chg cw26 (by omega)
  have f84 := (f82.ext c40).ext cb41
  have f85 := f84.chg cw43 (by omega)
  refine sx_store (vs := [.string (⟨#[]⟩), .bool false, (.slice none 0 0)]) rfl rfl f85 rfl Tryz.sizeOf48 (nbl rfl) (o3 rfl rfl rfl) (fun w76 sw76 fw76 cw76 => ?_)
  have zw76 := cw76.size
  have gw76 : Blk w76 b4 [.string (⟨#[]⟩), .bool false, (.slice none 0 0)] 48 := fw76
  have f88 := (fb6.ext c17).ext cb18
  have f89 := f88.ext cb20
  have f90 := f89.chg cw22 (by omega)
  have f91 := f90.chg cw26 (by omega)
  have f93 := (f91.ext c40).ext cb41
  have f94 := f93.chg cw43 (by omega)
  have f95 := f94.chg cw76 (by omega)
  refine sx_store (vs := [.bool false, (.slice none 0 0), (.slice none 0 0)]) rfl rfl f95 rfl Tryz.sizeOf30 (nbl rfl) (o3 rfl rfl rfl) (fun w86 sw86 fw86 cw86 => ?_)
  have zw86 := cw86.size
  have gw86 : Blk w86 b6 [.bool false, (.slice none 0 0), (.slice none 0 0)] 30 := fw86
  refine av rfl rfl (wl_nil (q_n (k75 _ _ ?_)))
  refine sx_sub (Sub.c 6 rfl (.c 7 rfl (.c 8 rfl (.c 10 rfl (.c 12 rfl .nil))))) ?_
  refine sx_retc ?_
  have f96 := gw76.chg cw86 (by omega)
  refine q_r (sx_ret3 Tryz.results62 ⟨_, rfl, f96.loadA (vs := [.string (⟨#[]⟩), .bool false, (.slice none 0 0)]) (look_lit rfl) Tryz.isAgg48 Tryz.sizeOf48⟩ ⟨_, rfl, gw86.loadA (vs := [.bool false, (.slice none 0 0), (.slice none 0 0)]) (look_lit rfl) Tryz.isAgg30 Tryz.sizeOf30⟩ rfl ?_)
  rw [rMon_no hQ1 hQ2 (fun hh => by first | exact bcl hh.1 h108 | exact bcl hh.2 h108x1)]
  have q97 := Chg.step (l := 0) (h := 0) (Chg.zero (l := 0) (h := 0) (((((cb2.t cb4).t cb6).t c17).t cb18).t cb20)) cw22 (by omega)
  have q98 := Chg.step (l := 0) (h := 0) q97 cw26 (by omega)
  have q99 := Chg.step (l := 0) (h := 0) q98 (c40.t cb41) (by omega)
  have q100 := Chg.step (l := 0) (h := 0) q99 cw43 (by omega)
  have q101 := Chg.step (l := 0) (h := 0) q100 cw76 (by omega)
  have q102 := Chg.step (l := 0) (h := 0) q101 cw86 (by omega)
  exact ⟨_, _, _, w.heap.size, w.heap.size, w.heap.size, w.heap.size, w.heap.size, w.heap.size, rfl, Own.nil _ _ _ _ _, Own.nil _ _ _ _ _, Own.nil _ _ _ _ _, by omega, ⟨by simp, by simp, by simp⟩, q102⟩
 refine sx_skip ?_
 refine q_n (k45 _ _ ?_)
 refine sx_seq fun K103 k103 => ?_
 have f105 := (f10.ext c17).ext cb18
 have f106 := f105.ext cb20
 have f107 := f106.chg cw22 (by omega)
 have f108 := f107.chg cw26 (by omega)
 have f110 := (f108.ext c40).ext cb41
 have f111 := f110.chg cw43 (by omega)
 have f113 := (f39.ext c40).ext cb41
 have f114 := f113.chg cw43 (by omega)
 have f116 := (gw26.ext c40).ext cb41
 have f117 := f116.chg cw43 (by omega)
 have f119 := (f13.ext c17).ext cb18
 have f120 := f119.ext cb20
 have f121 := f120.chg cw22 (by omega)
 have f122 := f121.chg cw26 (by omega)
 have f124 := (f122.ext c40).ext cb41
 have f125 := f124.chg cw43 (by omega)
 have f127 := (f16.ext c17).ext cb18
 have f128 := f127.ext cb20
 have f129 := f128.chg cw22 (by omega)
 have f130 := f129.chg cw26 (by omega)
 have f132 := (f130.ext c40).ext cb41
 have f133 := f132.chg cw43 (by omega)
 have f135 := (f37.ext c40).ext cb41
 have f136 := f135.chg cw43 (by omega)
 have f137 := f33.chg cw26 (by omega)
 have f139 := (f137.ext c40).ext cb41
 have f140 := f139.chg cw43 (by omega)
 have f141 := f30.chg cw26 (by omega)
 have f143 := (f141.ext c40).ext cb41
 have f144 := f143.chg cw43 (by omega)
 have f145 := f44.chg cw43 (by omega)
 refine dx_region (fun w' => Chg b4 (b6 + 1) w43 w') (by kernel_rfl) (Chg.zero (Chg.drew _)) ?_
 have d146 := Chg.drew w43
 have s146 : Chg b4 (b6 + 1) w43 (World.drew w43) := Chg.zero (Chg.drew _)
 have y146 : (World.drew w43).heap.size = w43.heap.size := rfl
 generalize World.drew w43 = w146 at *
 have zw146 := d146.size
 refine dt 0 rfl rfl rfl rfl s146 (fun _ hS => px_load rfl ((gw43.chg hS (by omega)).loadA (vs := [.string ((mR cc (Q)).1), .bool ((mR cc (Q)).2.1), s40]) (look_lit rfl) Tryz.isAgg48 Tryz.sizeOf48)) ?_
 refine dt 1 rfl rfl rfl rfl s146 (fun _ hS => px_load rfl ((f117.chg hS (by omega)).loadA (vs := [.bool ((rRest n1 z1 y1 m).2.1.1), t17, u17]) (look_lit rfl) Tryz.isAgg30 Tryz.sizeOf30)) ?_
 refine dx_eff 2 rfl (by kernel_rfl) ?_
 have f148 := fb4.ext cb6
 have f150 := (f148.ext c17).ext cb18
 have f151 := f150.ext cb20
 have f152 := f151.chg cw22 (by omega)
 have f153 := f152.chg cw26 (by omega)
 have f155 := (f153.ext c40).ext cb41
 have f156 := f155.chg cw43 (by omega)
 have f157 := f156.ext d146
 have f158 := f145.ext d146
 refine sx_store (vs := [.string ((mR cc (Q)).1), .bool ((mR cc (Q)).2.1), s40]) rfl rfl f157 rfl Tryz.sizeOf48 (nbl rfl) (one_cons rfl (one_cons rfl (one_cons f158.one one_nil))) (fun w147 sw147 fw147 cw147 => ?_)
 have zw147 := cw147.size
 have gw147 : Blk w147 b4 [.string ((mR cc (Q)).1), .bool ((mR cc (Q)).2.1), s40] 48 := fw147
 have q160 := Chg.step (l := b4) (h := (b6 + 1)) (Chg.zero (l := b4) (h := (b6 + 1)) d146) cw147 (by omega)
 have s159 : Chg b4 (b6 + 1) w43 w147 := q160
 refine wl_nil ?_
 refine dx_next s159 ?_
 refine dx_eff 3 rfl (by kernel_rfl) ?_
 have f163 := (fb6.ext c17).ext cb18
 have f164 := f163.ext cb20
 have f165 := f164.chg cw22 (by omega)
 have f166 := f165.chg cw26 (by omega)
 have f168 := (f166.ext c40).ext cb41
 have f169 := f168.chg cw43 (by omega)
 have f171 := (f169.ext d146).chg cw147 (by omega)
 have f173 := (f144.ext d146).chg cw147 (by omega)
 have f175 := (f140.ext d146).chg cw147 (by omega)
 refine sx_store (vs := [.bool ((rRest n1 z1 y1 m).2.1.1), t17, u17]) rfl rfl f171 rfl Tryz.sizeOf30 (nbl rfl) (one_cons rfl (one_cons f175.one (one_cons f173.one one_nil))) (fun w161 sw161 fw161 cw161 => ?_)
 have zw161 := cw161.size
 have gw161 : Blk w161 b6 [.bool ((rRest n1 z1 y1 m).2.1.1), t17, u17] 30 := fw161
 have q177 := Chg.step (l := b4) (h := (b6 + 1)) (Chg.zero (l := b4) (h := (b6 + 1)) d146) cw147 (by omega)
 have q178 := Chg.step (l := b4) (h := (b6 + 1)) q177 cw161 (by omega)
 have s176 : Chg b4 (b6 + 1) w43 w161 := q178
 refine wl_nil ?_
 refine dx_next s176 ?_
 refine dt 4 rfl rfl rfl rfl s176 (fun _ hS => px_assign rfl) ?_
 refine dx_done (by kernel_rfl) ?_
 refine q_n (k103 _ _ ?_)
 refine sx_sub (Sub.c 6 rfl (.c 7 rfl (.c 8 rfl .nil))) ?_
 refine sx_retc ?_
 have f179 := gw147.chg cw161 (by omega)
 refine sx_ret3 Tryz.results62 ⟨_, rfl, f179.loadA (vs := [.string ((mR cc (Q)).1), .bool ((mR cc (Q)).2.1), s40]) (look_lit rfl) Tryz.isAgg48 Tryz.sizeOf48⟩ ⟨_, rfl, gw161.loadA (vs := [.bool ((rRest n1 z1 y1 m).2.1.1), t17, u17]) (look_lit rfl) Tryz.isAgg30 Tryz.sizeOf30⟩ rfl ?_
 have hrl := rMon_len (c := cc) (n := n1) (z := z1) (y := y1) (m := m)
 rw [rMon_ok hQ1 hQ2 (bnot_f h108) (bnot_f h108x1)] at hrl ⊢
 have q180 := Chg.step (l := 0) (h := 0) (Chg.zero (l := 0) (h := 0) (((((cb2.t cb4).t cb6).t c17).t cb18).t cb20)) cw22 (by omega)
 have q181 := Chg.step (l := 0) (h := 0) q180 cw26 (by omega)
 have q182 := Chg.step (l := 0) (h := 0) q181 (c40.t cb41) (by omega)
 have q183 := Chg.step (l := 0) (h := 0) q182 cw43 (by omega)
 have q184 := Chg.step (l := 0) (h := 0) q183 d146 (by omega)
 have q185 := Chg.step (l := 0) (h := 0) q184 cw147 (by omega)
 have q186 := Chg.step (l := 0) (h := 0) q185 cw161 (by omega)
 have f187 := f158.chg cw147 (by omega)
 have f188 := f187.chg cw161 (by omega)
 have f189 := f175.chg cw161 (by omega)
 have f190 := f173.chg cw161 (by omega)
 exact ⟨_, _, _, _, _, _, _, _, _, rfl, f188, f189, f190, by omega, hrl, q186⟩

end Go.Proofs.YtcghgfmickgnkaaGreatDoor
