/- Contracts of functions of the program: what each call returns, and that it changes nothing that was. Conditions: as each says. -/
import Derived.Test.YtomfgkfpihemlaaDoorTy
import Derived.Test.YtomfgkfpihemlaaDoorNatJ
import Derived.Test.YtomfgkfpihemlaaDoorPair
import Derived.Test.YtomfgkfpihemlaaDoorK0
set_option linter.unusedVariables false
set_option linter.unusedSimpArgs false
namespace Go.Proofs.YtomfgkfpihemlaaDoor
open Go Go.RowKit
set_option maxRecDepth 100000
theorem c_l02Add {w : World} {va : Value} {lva uva : Nat} {m : Nat} {vb : Value} {lvb uvb : Nat} {n : Nat} (hva : Sl w lva uva va (dg m)) (hvb : Sl w lvb uvb vb (dg n)) (hbm : (dg m).length ≤ 1000) (hbn : (dg n).length ≤ 1000) :
  Ret Tryd.prog 127 [va, vb] w fun v w' => ∃ s, v = s ∧ Sl w' (w.heap.size) (w'.heap.size) s (dg (m + n)) ∧ Chg 0 0 w w' := by
 have hva0 := hva.fit
 have hvb0 := hvb.fit
 refine sx_enter Tryd.func127 rfl Tryd.ntmps127 (Nat.le_of_ble_eq_true rfl) ?_
 refine sx_seq fun K1 k1 => sx_region ?_
 refine sa rfl rfl rfl rfl ?_
 refine wl_nil (q_n (k1 _ _ ?_))
 refine sx_seq fun K2 k2 => sx_region ?_
 refine sx_lit0 rfl xelt22 (fun s3 ws3 ss3 fs3 cs3 => ?_)
 have zws3 := cs3.size
 refine sa rfl rfl rfl rfl ?_
 refine wl_nil (q_n (k2 _ _ ?_))
 refine sx_seq fun K4 k4 => sx_region ?_
 refine sa rfl rfl rfl rfl ?_
 refine wl_nil (q_n (k4 _ _ ?_))
 refine sx_seq fun K5 k5 => ?_
 refine sx_seq fun K6 k6 => sx_region ?_
 refine sa rfl rfl rfl rfl ?_
 refine wl_nil (q_n (k6 _ _ ?_))
 refine sx_block ?_
 refine sx_loop (fun mm aa w' => ∃ (k : Nat) (s : Value) (os : List Int) (c : Nat), Agr 55 [(0, va), (1, vb), (5, s), (6, .int .i64 ((c : Nat) : Int)), (7, .int .i64 ↑k)] aa ∧ Chg w.heap.size ws3.heap.size ws3 w' ∧ Own w' w.heap.size w'.heap.size s intT os.length 1 (os.map (Value.int .i64)) ∧ (mm = max (dg m).length (dg n).length + 1 - k) ∧ (os.length = k) ∧ (Lm os) ∧ (c ≤ 1) ∧ (vl os + Bs ^ k * c = vl ((dg m).take k) + vl ((dg n).take k)) ∧ (k ≤ max (dg m).length (dg n).length ∨ (c = 0 ∧ k = max (dg m).length (dg n).length + 1 ∧ Bs ^ (k - 1) ≤ vl os))) (_) (fun a ha => ⟨0, s3, [], 0, ha.sub (Sub.cons (t := 0) rfl (.cons (t := 1) rfl (.cons (t := 5) rfl (.cons (t := 6) (look_int (t := 6) rfl (by first | omega | simp)) (.cons (t := 7) (look_int (t := 7) rfl (by first | omega | simp)) (.nil)))))), Chg.refl _ _ _, (fs3.mono (by omega) (by omega)), rfl, rfl, Lm.nil, by omega, by simp [vl], .inl (Nat.zero_le _)⟩) ?_
 rintro mm aa wl7 ⟨k, s, os, c, hAwl7, cwl7, hs_s, hm, hos, hlm, hc, hv, hlast⟩
 refine (show cw Tryd.prog 55 _ _ _ wl7 from ?_) aa hAwl7
 clear hAwl7
 have zwl7 := cwl7.size
 have am := (Lm_dg m).getD k
 have bn := (Lm_dg n).getD k
 refine sx_seq fun K8 k8 => ?_
 refine sx_seq fun K9 k9 => sx_region ?_
 refine sm rfl rfl rfl rfl ?_
 refine sm rfl rfl rfl rfl ?_
 have f10 := hva0.ext cs3
 have f11 := f10.chg cwl7 (by omega)
 refine sx_pure rfl rfl rfl (px_len rfl Tryd.underlying22 f11) ?_
 refine sx_pure rfl rfl rfl (px_lt rfl rfl) ?_
 refine sm rfl rfl rfl rfl ?_
 refine sx_tmpP (t := 14) rfl (fun h82 => ?_) (fun h82 => ?_)
 ·
  refine sx_guardF rfl rfl rfl rfl rfl rfl ?_
  refine sx_guardF rfl rfl rfl rfl rfl rfl ?_
  refine sx_guardF rfl rfl rfl rfl rfl rfl ?_
  refine sx_guardF rfl rfl rfl rfl rfl rfl ?_
  refine sx_pure rfl rfl rfl (px_pick rfl rfl) ?_
  refine sm rfl rfl rfl rfl ?_
  refine sx_guardF rfl rfl rfl rfl rfl rfl ?_
  refine sx_guardF rfl rfl rfl rfl rfl rfl ?_
  refine sx_pure rfl rfl rfl (px_pick rfl rfl) ?_
  refine wl_nil (q_n (k9 _ _ ?_))
  refine sx_sub (Sub.cons (t := 0) rfl (.cons (t := 1) rfl (.cons (t := 5) rfl (.cons (t := 6) rfl (.cons (t := 7) rfl (.cons (t := 23) rfl (.nil))))))) ?_
  refine sx_condT rfl ?_
  refine sx_skip ?_
  refine q_n (k8 _ _ ?_)
  refine sx_seq fun K12 k12 => ?_
  refine sx_block ?_
  refine sx_seq fun K13 k13 => sx_region ?_
  refine sm rfl rfl rfl rfl ?_
  refine sa rfl rfl rfl rfl ?_
  refine wl_nil (q_n (k13 _ _ ?_))
  refine sx_seq fun K14 k14 => ?_
  refine sx_seq fun K15 k15 => sx_region ?_
  refine sm rfl rfl rfl rfl ?_
  refine sm rfl rfl rfl rfl ?_
  refine sx_pure rfl rfl rfl (px_len rfl Tryd.underlying22 f11) ?_
  refine sx_pure rfl rfl rfl (px_lt rfl rfl) ?_
  refine wl_nil (q_n (k15 _ _ ?_))
  refine sx_condP rfl (fun h84 => ?_) (fun h84 => ?_)
  ·
   refine sx_region ?_
   refine sm rfl rfl rfl rfl ?_
   refine sm rfl rfl rfl rfl ?_
   refine sm rfl rfl rfl rfl ?_
   refine sx_pure rfl rfl rfl (px_index1 (j := k) rfl rfl (by omega) Tryd.underlying22 Tryd.sizeOf3 f11 (by omega)) ?_
   refine sx_pure rfl rfl rfl (px_load rfl (f11.load1 (at_int (by omega)) Tryd.isAgg3)) ?_
   refine sx_pure rfl rfl rfl (px_add rfl rfl (by omega)) ?_
   refine sa rfl rfl rfl rfl ?_
   refine wl_nil (q_n (k14 _ _ ?_))
   refine sx_sub (Sub.cons (t := 0) rfl (.cons (t := 1) rfl (.cons (t := 5) rfl (.cons (t := 6) rfl (.cons (t := 7) rfl (.cons (t := 8) rfl (.nil))))))) ?_
   refine sx_seq fun K16 k16 => ?_
   refine sx_seq fun K17 k17 => sx_region ?_
   refine sm rfl rfl rfl rfl ?_
   refine sm rfl rfl rfl rfl ?_
   have f18 := hvb0.ext cs3
   have f19 := f18.chg cwl7 (by omega)
   refine sx_pure rfl rfl rfl (px_len rfl Tryd.underlying22 f19) ?_
   refine sx_pure rfl rfl rfl (px_lt rfl rfl) ?_
   refine wl_nil (q_n (k17 _ _ ?_))
   refine sx_condP rfl (fun h87 => ?_) (fun h87 => ?_)
   ·
    refine sx_region ?_
    refine sm rfl rfl rfl rfl ?_
    refine sm rfl rfl rfl rfl ?_
    refine sm rfl rfl rfl rfl ?_
    refine sx_pure rfl rfl rfl (px_index1 (j := k) rfl rfl (by omega) Tryd.underlying22 Tryd.sizeOf3 f19 (by omega)) ?_
    refine sx_pure rfl rfl rfl (px_load rfl (f19.load1 (at_int (by omega)) Tryd.isAgg3)) ?_
    refine sx_pure rfl rfl rfl (px_add rfl rfl (by omega)) ?_
    refine sa rfl rfl rfl rfl ?_
    refine wl_nil (q_n (k16 _ _ ?_))
    refine sx_sub (Sub.cons (t := 0) rfl (.cons (t := 1) rfl (.cons (t := 5) rfl (.cons (t := 6) rfl (.cons (t := 7) rfl (.cons (t := 8) rfl (.nil))))))) ?_
    refine sx_seq fun K20 k20 => sx_region ?_
    refine sm rfl rfl rfl rfl ?_
    refine sm rfl rfl rfl rfl ?_
    refine sx_pure rfl rfl rfl (px_rem rfl rfl (by omega) (by omega)) ?_
    refine sx_lit1 rfl xelt22 rfl rfl (fun s21 ws21 ss21 fs21 cs21 => ?_)
    have ns21 := Own.norm (f := (Value.int .i64)) (zs := [((((c : Nat) : Int) + ((dg m).getD k 0)) + ((dg n).getD k 0)) % 1000000000]) fs21
    have zws21 := cs21.size
    have f23 := hs_s.ext cs21
    refine sx_append rfl xelt22 rfl rfl f23 ns21.sv one_int (by omega) (by simp only [List.length_cons, List.length_nil]; omega) (by unfold maxLen; simp only [List.length_cons, List.length_nil]; omega) (fun a22 w22 fw22 cw22 => ?_)
    have nw22 := Own.app (f := (Value.int .i64)) (a := os) (b := [((((c : Nat) : Int) + ((dg m).getD k 0)) + ((dg n).getD k 0)) % 1000000000]) fw22
    have zw22 := cw22.size
    refine sa rfl rfl rfl rfl ?_
    refine wl_nil (q_n (k20 _ _ ?_))
    refine sx_region ?_
    refine sm rfl rfl rfl rfl ?_
    refine sx_pure rfl rfl rfl (px_quo rfl rfl (by omega) (by omega) (by omega)) ?_
    refine sa rfl rfl rfl rfl ?_
    refine wl_nil ?_
    refine q_bn (q_n (k12 _ _ ?_))
    refine sx_region ?_
    refine sm rfl rfl rfl rfl ?_
    refine sx_pure rfl rfl rfl (px_add rfl rfl (by omega)) ?_
    refine sa rfl rfl rfl rfl ?_
    refine wl_nil ?_
    have q24 := Chg.step (l := w.heap.size) (h := ws3.heap.size) cwl7 cs21 (by omega)
    have q25 := Chg.step (l := w.heap.size) (h := ws3.heap.size) q24 cw22 (by omega)
    have hs : (((((c : Nat) : Int) + ((dg m).getD k 0)) + ((dg n).getD k 0)) : Int) = ((c : Nat) : Int) + (((dg m).getD k 0).toNat : Nat) + (((dg n).getD k 0).toNat : Nat) := by omega
    have hv2 : vl (os ++ [(((((c : Nat) : Int) + ((dg m).getD k 0)) + ((dg n).getD k 0))) % 1000000000]) + Bs ^ (k + 1) * ((((((c : Nat) : Int) + ((dg m).getD k 0)) + ((dg n).getD k 0))) / 1000000000 : Int).toNat = vl ((dg m).take (k + 1)) + vl ((dg n).take (k + 1)) := by
     rw [vl_concat, hos, vl_take_succ', vl_take_succ', Nat.pow_succ]
     exact add_step hs hv
    have hX := mod_bd (s := ((((c : Nat) : Int) + ((dg m).getD k 0)) + ((dg n).getD k 0))) (by omega)
    have hl3 : k + 1 ≤ max (dg m).length (dg n).length ∨ (((((((c : Nat) : Int) + ((dg m).getD k 0)) + ((dg n).getD k 0))) / 1000000000 : Int).toNat = 0 ∧ k + 1 = max (dg m).length (dg n).length + 1 ∧ Bs ^ (k + 1 - 1) ≤ vl (os ++ [(((((c : Nat) : Int) + ((dg m).getD k 0)) + ((dg n).getD k 0))) % 1000000000])) := by
     by_cases hkM : k + 1 ≤ max (dg m).length (dg n).length
     · exact .inl hkM
     · first
      | (exfalso; omega)
      | (refine .inr ⟨by omega, by omega, ?_⟩; rw [vl_concat, hos, Nat.add_sub_cancel, show (((((c : Nat) : Int) + ((dg m).getD k 0)) + ((dg n).getD k 0))) % 1000000000 = 1 by omega]; exact Nat.le_trans (by simp) (Nat.le_add_left _ _))
    exact fun a ha => ⟨_, by omega, (k + 1), a22, (os ++ ([((((c : Nat) : Int) + ((dg m).getD k 0)) + ((dg n).getD k 0)) % 1000000000])), ((((((c : Nat) : Int) + ((dg m).getD k 0)) + ((dg n).getD k 0))) / 1000000000 : Int).toNat, ha.sub (Sub.cons (t := 0) rfl (.cons (t := 1) rfl (.cons (t := 5) rfl (.cons (t := 6) (look_int (t := 6) rfl (by first | omega | simp)) (.cons (t := 7) (look_int (t := 7) rfl (by first | omega | simp)) (.nil)))))), q25, (nw22.mono (by omega) (by omega)), rfl, by simp [hos], hlm.append (Lm.single hX.1 hX.2), by omega, hv2, hl3⟩
   ·
    have gn := getD_ge (zs := dg n) (k := k) (by omega)
    refine sx_skip ?_
    refine q_n (k16 _ _ ?_)
    refine sx_seq fun K26 k26 => sx_region ?_
    refine sm rfl rfl rfl rfl ?_
    refine sm rfl rfl rfl rfl ?_
    refine sx_pure rfl rfl rfl (px_rem rfl rfl (by omega) (by omega)) ?_
    refine sx_lit1 rfl xelt22 rfl rfl (fun s27 ws27 ss27 fs27 cs27 => ?_)
    have ns27 := Own.norm (f := (Value.int .i64)) (zs := [(((c : Nat) : Int) + ((dg m).getD k 0)) % 1000000000]) fs27
    have zws27 := cs27.size
    have f29 := hs_s.ext cs27
    refine sx_append rfl xelt22 rfl rfl f29 ns27.sv one_int (by omega) (by simp only [List.length_cons, List.length_nil]; omega) (by unfold maxLen; simp only [List.length_cons, List.length_nil]; omega) (fun a28 w28 fw28 cw28 => ?_)
    have nw28 := Own.app (f := (Value.int .i64)) (a := os) (b := [(((c : Nat) : Int) + ((dg m).getD k 0)) % 1000000000]) fw28
    have zw28 := cw28.size
    refine sa rfl rfl rfl rfl ?_
    refine wl_nil (q_n (k26 _ _ ?_))
    refine sx_sub (Sub.cons (t := 0) rfl (.cons (t := 1) rfl (.cons (t := 5) rfl (.cons (t := 6) rfl (.cons (t := 7) rfl (.cons (t := 8) rfl (.nil))))))) ?_
    refine sx_region ?_
    refine sm rfl rfl rfl rfl ?_
    refine sx_pure rfl rfl rfl (px_quo rfl rfl (by omega) (by omega) (by omega)) ?_
    refine sa rfl rfl rfl rfl ?_
    refine wl_nil ?_
    refine q_bn (q_n (k12 _ _ ?_))
    refine sx_region ?_
    refine sm rfl rfl rfl rfl ?_
    refine sx_pure rfl rfl rfl (px_add rfl rfl (by omega)) ?_
    refine sa rfl rfl rfl rfl ?_
    refine wl_nil ?_
    have q30 := Chg.step (l := w.heap.size) (h := ws3.heap.size) cwl7 cs27 (by omega)
    have q31 := Chg.step (l := w.heap.size) (h := ws3.heap.size) q30 cw28 (by omega)
    have hs : ((((c : Nat) : Int) + ((dg m).getD k 0)) : Int) = ((c : Nat) : Int) + (((dg m).getD k 0).toNat : Nat) + (((dg n).getD k 0).toNat : Nat) := by omega
    have hv2 : vl (os ++ [((((c : Nat) : Int) + ((dg m).getD k 0))) % 1000000000]) + Bs ^ (k + 1) * (((((c : Nat) : Int) + ((dg m).getD k 0))) / 1000000000 : Int).toNat = vl ((dg m).take (k + 1)) + vl ((dg n).take (k + 1)) := by
     rw [vl_concat, hos, vl_take_succ', vl_take_succ', Nat.pow_succ]
     exact add_step hs hv
    have hX := mod_bd (s := (((c : Nat) : Int) + ((dg m).getD k 0))) (by omega)
    have hl3 : k + 1 ≤ max (dg m).length (dg n).length ∨ ((((((c : Nat) : Int) + ((dg m).getD k 0))) / 1000000000 : Int).toNat = 0 ∧ k + 1 = max (dg m).length (dg n).length + 1 ∧ Bs ^ (k + 1 - 1) ≤ vl (os ++ [((((c : Nat) : Int) + ((dg m).getD k 0))) % 1000000000])) := by
     by_cases hkM : k + 1 ≤ max (dg m).length (dg n).length
     · exact .inl hkM
     · first
      | (exfalso; omega)
      | (refine .inr ⟨by omega, by omega, ?_⟩; rw [vl_concat, hos, Nat.add_sub_cancel, show ((((c : Nat) : Int) + ((dg m).getD k 0))) % 1000000000 = 1 by omega]; exact Nat.le_trans (by simp) (Nat.le_add_left _ _))
    exact fun a ha => ⟨_, by omega, (k + 1), a28, (os ++ ([(((c : Nat) : Int) + ((dg m).getD k 0)) % 1000000000])), (((((c : Nat) : Int) + ((dg m).getD k 0))) / 1000000000 : Int).toNat, ha.sub (Sub.cons (t := 0) rfl (.cons (t := 1) rfl (.cons (t := 5) rfl (.cons (t := 6) (look_int (t := 6) rfl (by first | omega | simp)) (.cons (t := 7) (look_int (t := 7) rfl (by first | omega | simp)) (.nil)))))), q31, (nw28.mono (by omega) (by omega)), rfl, by simp [hos], hlm.append (Lm.single hX.1 hX.2), by omega, hv2, hl3⟩
  ·
   have gm := getD_ge (zs := dg m) (k := k) (by omega)
   refine sx_skip ?_
   refine q_n (k14 _ _ ?_)
   refine sx_seq fun K32 k32 => ?_
   refine sx_seq fun K33 k33 => sx_region ?_
   refine sm rfl rfl rfl rfl ?_
   refine sm rfl rfl rfl rfl ?_
   have f34 := hvb0.ext cs3
   have f35 := f34.chg cwl7 (by omega)
   refine sx_pure rfl rfl rfl (px_len rfl Tryd.underlying22 f35) ?_
   refine sx_pure rfl rfl rfl (px_lt rfl rfl) ?_
   refine wl_nil (q_n (k33 _ _ ?_))
   refine sx_sub (Sub.cons (t := 0) rfl (.cons (t := 1) rfl (.cons (t := 5) rfl (.cons (t := 6) rfl (.cons (t := 7) rfl (.cons (t := 8) rfl (.cons (t := 40) rfl (.nil)))))))) ?_
   refine sx_condP rfl (fun h87 => ?_) (fun h87 => ?_)
   ·
    refine sx_region ?_
    refine sm rfl rfl rfl rfl ?_
    refine sm rfl rfl rfl rfl ?_
    refine sm rfl rfl rfl rfl ?_
    refine sx_pure rfl rfl rfl (px_index1 (j := k) rfl rfl (by omega) Tryd.underlying22 Tryd.sizeOf3 f35 (by omega)) ?_
    refine sx_pure rfl rfl rfl (px_load rfl (f35.load1 (at_int (by omega)) Tryd.isAgg3)) ?_
    refine sx_pure rfl rfl rfl (px_add rfl rfl (by omega)) ?_
    refine sa rfl rfl rfl rfl ?_
    refine wl_nil (q_n (k32 _ _ ?_))
    refine sx_seq fun K36 k36 => sx_region ?_
    refine sm rfl rfl rfl rfl ?_
    refine sm rfl rfl rfl rfl ?_
    refine sx_pure rfl rfl rfl (px_rem rfl rfl (by omega) (by omega)) ?_
    refine sx_lit1 rfl xelt22 rfl rfl (fun s37 ws37 ss37 fs37 cs37 => ?_)
    have ns37 := Own.norm (f := (Value.int .i64)) (zs := [(((c : Nat) : Int) + ((dg n).getD k 0)) % 1000000000]) fs37
    have zws37 := cs37.size
    have f39 := hs_s.ext cs37
    refine sx_append rfl xelt22 rfl rfl f39 ns37.sv one_int (by omega) (by simp only [List.length_cons, List.length_nil]; omega) (by unfold maxLen; simp only [List.length_cons, List.length_nil]; omega) (fun a38 w38 fw38 cw38 => ?_)
    have nw38 := Own.app (f := (Value.int .i64)) (a := os) (b := [(((c : Nat) : Int) + ((dg n).getD k 0)) % 1000000000]) fw38
    have zw38 := cw38.size
    refine sa rfl rfl rfl rfl ?_
    refine wl_nil (q_n (k36 _ _ ?_))
    refine sx_sub (Sub.cons (t := 0) rfl (.cons (t := 1) rfl (.cons (t := 5) rfl (.cons (t := 6) rfl (.cons (t := 7) rfl (.cons (t := 8) rfl (.nil))))))) ?_
    refine sx_region ?_
    refine sm rfl rfl rfl rfl ?_
    refine sx_pure rfl rfl rfl (px_quo rfl rfl (by omega) (by omega) (by omega)) ?_
    refine sa rfl rfl rfl rfl ?_
    refine wl_nil ?_
    refine q_bn (q_n (k12 _ _ ?_))
    refine sx_region ?_
    refine sm rfl rfl rfl rfl ?_
    refine sx_pure rfl rfl rfl (px_add rfl rfl (by omega)) ?_
    refine sa rfl rfl rfl rfl ?_
    refine wl_nil ?_
    have q40 := Chg.step (l := w.heap.size) (h := ws3.heap.size) cwl7 cs37 (by omega)
    have q41 := Chg.step (l := w.heap.size) (h := ws3.heap.size) q40 cw38 (by omega)
    have hs : ((((c : Nat) : Int) + ((dg n).getD k 0)) : Int) = ((c : Nat) : Int) + (((dg m).getD k 0).toNat : Nat) + (((dg n).getD k 0).toNat : Nat) := by omega
    have hv2 : vl (os ++ [((((c : Nat) : Int) + ((dg n).getD k 0))) % 1000000000]) + Bs ^ (k + 1) * (((((c : Nat) : Int) + ((dg n).getD k 0))) / 1000000000 : Int).toNat = vl ((dg m).take (k + 1)) + vl ((dg n).take (k + 1)) := by
     rw [vl_concat, hos, vl_take_succ', vl_take_succ', Nat.pow_succ]
     exact add_step hs hv
    have hX := mod_bd (s := (((c : Nat) : Int) + ((dg n).getD k 0))) (by omega)
    have hl3 : k + 1 ≤ max (dg m).length (dg n).length ∨ ((((((c : Nat) : Int) + ((dg n).getD k 0))) / 1000000000 : Int).toNat = 0 ∧ k + 1 = max (dg m).length (dg n).length + 1 ∧ Bs ^ (k + 1 - 1) ≤ vl (os ++ [((((c : Nat) : Int) + ((dg n).getD k 0))) % 1000000000])) := by
     by_cases hkM : k + 1 ≤ max (dg m).length (dg n).length
     · exact .inl hkM
     · first
      | (exfalso; omega)
      | (refine .inr ⟨by omega, by omega, ?_⟩; rw [vl_concat, hos, Nat.add_sub_cancel, show ((((c : Nat) : Int) + ((dg n).getD k 0))) % 1000000000 = 1 by omega]; exact Nat.le_trans (by simp) (Nat.le_add_left _ _))
    exact fun a ha => ⟨_, by omega, (k + 1), a38, (os ++ ([(((c : Nat) : Int) + ((dg n).getD k 0)) % 1000000000])), (((((c : Nat) : Int) + ((dg n).getD k 0))) / 1000000000 : Int).toNat, ha.sub (Sub.cons (t := 0) rfl (.cons (t := 1) rfl (.cons (t := 5) rfl (.cons (t := 6) (look_int (t := 6) rfl (by first | omega | simp)) (.cons (t := 7) (look_int (t := 7) rfl (by first | omega | simp)) (.nil)))))), q41, (nw38.mono (by omega) (by omega)), rfl, by simp [hos], hlm.append (Lm.single hX.1 hX.2), by omega, hv2, hl3⟩
   ·
    have gn := getD_ge (zs := dg n) (k := k) (by omega)
    refine sx_skip ?_
    refine q_n (k32 _ _ ?_)
    refine sx_seq fun K42 k42 => sx_region ?_
    refine sm rfl rfl rfl rfl ?_
    refine sm rfl rfl rfl rfl ?_
    refine sx_pure rfl rfl rfl (px_rem rfl rfl (by omega) (by omega)) ?_
    refine sx_lit1 rfl xelt22 rfl rfl (fun s43 ws43 ss43 fs43 cs43 => ?_)
    have ns43 := Own.norm (f := (Value.int .i64)) (zs := [((c : Nat) : Int) % 1000000000]) fs43
    have zws43 := cs43.size
    have f45 := hs_s.ext cs43
    refine sx_append rfl xelt22 rfl rfl f45 ns43.sv one_int (by omega) (by simp only [List.length_cons, List.length_nil]; omega) (by unfold maxLen; simp only [List.length_cons, List.length_nil]; omega) (fun a44 w44 fw44 cw44 => ?_)
    have nw44 := Own.app (f := (Value.int .i64)) (a := os) (b := [((c : Nat) : Int) % 1000000000]) fw44
    have zw44 := cw44.size
    refine sa rfl rfl rfl rfl ?_
    refine wl_nil (q_n (k42 _ _ ?_))
    refine sx_region ?_
    refine sm rfl rfl rfl rfl ?_
    refine sx_pure rfl rfl rfl (px_quo rfl rfl (by omega) (by omega) (by omega)) ?_
    refine sa rfl rfl rfl rfl ?_
    refine wl_nil ?_
    refine q_bn (q_n (k12 _ _ ?_))
    refine sx_region ?_
    refine sm rfl rfl rfl rfl ?_
    refine sx_pure rfl rfl rfl (px_add rfl rfl (by omega)) ?_
    refine sa rfl rfl rfl rfl ?_
    refine wl_nil ?_
    have q46 := Chg.step (l := w.heap.size) (h := ws3.heap.size) cwl7 cs43 (by omega)
    have q47 := Chg.step (l := w.heap.size) (h := ws3.heap.size) q46 cw44 (by omega)
    have hs : (((c : Nat) : Int) : Int) = ((c : Nat) : Int) + (((dg m).getD k 0).toNat : Nat) + (((dg n).getD k 0).toNat : Nat) := by omega
    have hv2 : vl (os ++ [(((c : Nat) : Int)) % 1000000000]) + Bs ^ (k + 1) * ((((c : Nat) : Int)) / 1000000000 : Int).toNat = vl ((dg m).take (k + 1)) + vl ((dg n).take (k + 1)) := by
     rw [vl_concat, hos, vl_take_succ', vl_take_succ', Nat.pow_succ]
     exact add_step hs hv
    have hX := mod_bd (s := ((c : Nat) : Int)) (by omega)
    have hl3 : k + 1 ≤ max (dg m).length (dg n).length ∨ (((((c : Nat) : Int)) / 1000000000 : Int).toNat = 0 ∧ k + 1 = max (dg m).length (dg n).length + 1 ∧ Bs ^ (k + 1 - 1) ≤ vl (os ++ [(((c : Nat) : Int)) % 1000000000])) := by
     by_cases hkM : k + 1 ≤ max (dg m).length (dg n).length
     · exact .inl hkM
     · first
      | (exfalso; omega)
      | (refine .inr ⟨by omega, by omega, ?_⟩; rw [vl_concat, hos, Nat.add_sub_cancel, show (((c : Nat) : Int)) % 1000000000 = 1 by omega]; exact Nat.le_trans (by simp) (Nat.le_add_left _ _))
    exact fun a ha => ⟨_, by omega, (k + 1), a44, (os ++ ([((c : Nat) : Int) % 1000000000])), ((((c : Nat) : Int)) / 1000000000 : Int).toNat, ha.sub (Sub.cons (t := 0) rfl (.cons (t := 1) rfl (.cons (t := 5) rfl (.cons (t := 6) (look_int (t := 6) rfl (by first | omega | simp)) (.cons (t := 7) (look_int (t := 7) rfl (by first | omega | simp)) (.nil)))))), q47, (nw44.mono (by omega) (by omega)), rfl, by simp [hos], hlm.append (Lm.single hX.1 hX.2), by omega, hv2, hl3⟩
 ·
  refine sx_guardT rfl rfl rfl ?_
  refine sm rfl rfl rfl rfl ?_
  refine sx_guardT rfl rfl rfl ?_
  refine sm rfl rfl rfl rfl ?_
  refine sx_guardT rfl rfl rfl ?_
  have f48 := hvb0.ext cs3
  have f49 := f48.chg cwl7 (by omega)
  refine sx_pure rfl rfl rfl (px_len rfl Tryd.underlying22 f49) ?_
  refine sx_guardT rfl rfl rfl ?_
  refine sx_pure rfl rfl rfl (px_lt rfl rfl) ?_
  refine sx_pure rfl rfl rfl (px_pick rfl rfl) ?_
  refine sm rfl rfl rfl rfl ?_
  refine sx_tmpP (t := 20) rfl (fun h82x1 => ?_) (fun h82x1 => ?_)
  ·
   refine sx_guardF rfl rfl rfl rfl rfl rfl ?_
   refine sx_guardF rfl rfl rfl rfl rfl rfl ?_
   refine sx_pure rfl rfl rfl (px_pick rfl rfl) ?_
   refine wl_nil (q_n (k9 _ _ ?_))
   refine sx_sub (Sub.cons (t := 0) rfl (.cons (t := 1) rfl (.cons (t := 5) rfl (.cons (t := 6) rfl (.cons (t := 7) rfl (.cons (t := 23) rfl (.nil))))))) ?_
   refine sx_condT rfl ?_
   refine sx_skip ?_
   refine q_n (k8 _ _ ?_)
   refine sx_seq fun K50 k50 => ?_
   refine sx_block ?_
   refine sx_seq fun K51 k51 => sx_region ?_
   refine sm rfl rfl rfl rfl ?_
   refine sa rfl rfl rfl rfl ?_
   refine wl_nil (q_n (k51 _ _ ?_))
   refine sx_seq fun K52 k52 => ?_
   refine sx_seq fun K53 k53 => sx_region ?_
   refine sm rfl rfl rfl rfl ?_
   refine sm rfl rfl rfl rfl ?_
   refine sx_pure rfl rfl rfl (px_len rfl Tryd.underlying22 f11) ?_
   refine sx_pure rfl rfl rfl (px_lt rfl rfl) ?_
   refine wl_nil (q_n (k53 _ _ ?_))
   refine sx_condP rfl (fun h84 => ?_) (fun h84 => ?_)
   ·
    refine sx_region ?_
    refine sm rfl rfl rfl rfl ?_
    refine sm rfl rfl rfl rfl ?_
    refine sm rfl rfl rfl rfl ?_
    refine sx_pure rfl rfl rfl (px_index1 (j := k) rfl rfl (by omega) Tryd.underlying22 Tryd.sizeOf3 f11 (by omega)) ?_
    refine sx_pure rfl rfl rfl (px_load rfl (f11.load1 (at_int (by omega)) Tryd.isAgg3)) ?_
    refine sx_pure rfl rfl rfl (px_add rfl rfl (by omega)) ?_
    refine sa rfl rfl rfl rfl ?_
    refine wl_nil (q_n (k52 _ _ ?_))
    refine sx_sub (Sub.cons (t := 0) rfl (.cons (t := 1) rfl (.cons (t := 5) rfl (.cons (t := 6) rfl (.cons (t := 7) rfl (.cons (t := 8) rfl (.nil))))))) ?_
    refine sx_seq fun K54 k54 => ?_
    refine sx_seq fun K55 k55 => sx_region ?_
    refine sm rfl rfl rfl rfl ?_
    refine sm rfl rfl rfl rfl ?_
    refine sx_pure rfl rfl rfl (px_len rfl Tryd.underlying22 f49) ?_
    refine sx_pure rfl rfl rfl (px_lt rfl rfl) ?_
    refine wl_nil (q_n (k55 _ _ ?_))
    refine sx_condP rfl (fun h87 => ?_) (fun h87 => ?_)
    ·
     refine sx_region ?_
     refine sm rfl rfl rfl rfl ?_
     refine sm rfl rfl rfl rfl ?_
     refine sm rfl rfl rfl rfl ?_
     refine sx_pure rfl rfl rfl (px_index1 (j := k) rfl rfl (by omega) Tryd.underlying22 Tryd.sizeOf3 f49 (by omega)) ?_
     refine sx_pure rfl rfl rfl (px_load rfl (f49.load1 (at_int (by omega)) Tryd.isAgg3)) ?_
     refine sx_pure rfl rfl rfl (px_add rfl rfl (by omega)) ?_
     refine sa rfl rfl rfl rfl ?_
     refine wl_nil (q_n (k54 _ _ ?_))
     refine sx_sub (Sub.cons (t := 0) rfl (.cons (t := 1) rfl (.cons (t := 5) rfl (.cons (t := 6) rfl (.cons (t := 7) rfl (.cons (t := 8) rfl (.nil))))))) ?_
     refine sx_seq fun K56 k56 => sx_region ?_
     refine sm rfl rfl rfl rfl ?_
     refine sm rfl rfl rfl rfl ?_
     refine sx_pure rfl rfl rfl (px_rem rfl rfl (by omega) (by omega)) ?_
     refine sx_lit1 rfl xelt22 rfl rfl (fun s57 ws57 ss57 fs57 cs57 => ?_)
     have ns57 := Own.norm (f := (Value.int .i64)) (zs := [((((c : Nat) : Int) + ((dg m).getD k 0)) + ((dg n).getD k 0)) % 1000000000]) fs57
     have zws57 := cs57.size
     have f59 := hs_s.ext cs57
     refine sx_append rfl xelt22 rfl rfl f59 ns57.sv one_int (by omega) (by simp only [List.length_cons, List.length_nil]; omega) (by unfold maxLen; simp only [List.length_cons, List.length_nil]; omega) (fun a58 w58 fw58 cw58 => ?_)
     have nw58 := Own.app (f := (Value.int .i64)) (a := os) (b := [((((c : Nat) : Int) + ((dg m).getD k 0)) + ((dg n).getD k 0)) % 1000000000]) fw58
     have zw58 := cw58.size
     refine sa rfl rfl rfl rfl ?_
     refine wl_nil (q_n (k56 _ _ ?_))
     refine sx_region ?_
     refine sm rfl rfl rfl rfl ?_
     refine sx_pure rfl rfl rfl (px_quo rfl rfl (by omega) (by omega) (by omega)) ?_
     refine sa rfl rfl rfl rfl ?_
     refine wl_nil ?_
     refine q_bn (q_n (k50 _ _ ?_))
     refine sx_region ?_
     refine sm rfl rfl rfl rfl ?_
     refine sx_pure rfl rfl rfl (px_add rfl rfl (by omega)) ?_
     refine sa rfl rfl rfl rfl ?_
     refine wl_nil ?_
     have q60 := Chg.step (l := w.heap.size) (h := ws3.heap.size) cwl7 cs57 (by omega)
     have q61 := Chg.step (l := w.heap.size) (h := ws3.heap.size) q60 cw58 (by omega)
     have hs : (((((c : Nat) : Int) + ((dg m).getD k 0)) + ((dg n).getD k 0)) : Int) = ((c : Nat) : Int) + (((dg m).getD k 0).toNat : Nat) + (((dg n).getD k 0).toNat : Nat) := by omega
     have hv2 : vl (os ++ [(((((c : Nat) : Int) + ((dg m).getD k 0)) + ((dg n).getD k 0))) % 1000000000]) + Bs ^ (k + 1) * ((((((c : Nat) : Int) + ((dg m).getD k 0)) + ((dg n).getD k 0))) / 1000000000 : Int).toNat = vl ((dg m).take (k + 1)) + vl ((dg n).take (k + 1)) := by
      rw [vl_concat, hos, vl_take_succ', vl_take_succ', Nat.pow_succ]
      exact add_step hs hv
     have hX := mod_bd (s := ((((c : Nat) : Int) + ((dg m).getD k 0)) + ((dg n).getD k 0))) (by omega)
     have hl3 : k + 1 ≤ max (dg m).length (dg n).length ∨ (((((((c : Nat) : Int) + ((dg m).getD k 0)) + ((dg n).getD k 0))) / 1000000000 : Int).toNat = 0 ∧ k + 1 = max (dg m).length (dg n).length + 1 ∧ Bs ^ (k + 1 - 1) ≤ vl (os ++ [(((((c : Nat) : Int) + ((dg m).getD k 0)) + ((dg n).getD k 0))) % 1000000000])) := by
      by_cases hkM : k + 1 ≤ max (dg m).length (dg n).length
      · exact .inl hkM
      · first
       | (exfalso; omega)
       | (refine .inr ⟨by omega, by omega, ?_⟩; rw [vl_concat, hos, Nat.add_sub_cancel, show (((((c : Nat) : Int) + ((dg m).getD k 0)) + ((dg n).getD k 0))) % 1000000000 = 1 by omega]; exact Nat.le_trans (by simp) (Nat.le_add_left _ _))
     exact fun a ha => ⟨_, by omega, (k + 1), a58, (os ++ ([((((c : Nat) : Int) + ((dg m).getD k 0)) + ((dg n).getD k 0)) % 1000000000])), ((((((c : Nat) : Int) + ((dg m).getD k 0)) + ((dg n).getD k 0))) / 1000000000 : Int).toNat, ha.sub (Sub.cons (t := 0) rfl (.cons (t := 1) rfl (.cons (t := 5) rfl (.cons (t := 6) (look_int (t := 6) rfl (by first | omega | simp)) (.cons (t := 7) (look_int (t := 7) rfl (by first | omega | simp)) (.nil)))))), q61, (nw58.mono (by omega) (by omega)), rfl, by simp [hos], hlm.append (Lm.single hX.1 hX.2), by omega, hv2, hl3⟩
    ·
     have gn := getD_ge (zs := dg n) (k := k) (by omega)
     refine sx_skip ?_
     refine q_n (k54 _ _ ?_)
     refine sx_seq fun K62 k62 => sx_region ?_
     refine sm rfl rfl rfl rfl ?_
     refine sm rfl rfl rfl rfl ?_
     refine sx_pure rfl rfl rfl (px_rem rfl rfl (by omega) (by omega)) ?_
     refine sx_lit1 rfl xelt22 rfl rfl (fun s63 ws63 ss63 fs63 cs63 => ?_)
     have ns63 := Own.norm (f := (Value.int .i64)) (zs := [(((c : Nat) : Int) + ((dg m).getD k 0)) % 1000000000]) fs63
     have zws63 := cs63.size
     have f65 := hs_s.ext cs63
     refine sx_append rfl xelt22 rfl rfl f65 ns63.sv one_int (by omega) (by simp only [List.length_cons, List.length_nil]; omega) (by unfold maxLen; simp only [List.length_cons, List.length_nil]; omega) (fun a64 w64 fw64 cw64 => ?_)
     have nw64 := Own.app (f := (Value.int .i64)) (a := os) (b := [(((c : Nat) : Int) + ((dg m).getD k 0)) % 1000000000]) fw64
     have zw64 := cw64.size
     refine sa rfl rfl rfl rfl ?_
     refine wl_nil (q_n (k62 _ _ ?_))
     refine sx_sub (Sub.cons (t := 0) rfl (.cons (t := 1) rfl (.cons (t := 5) rfl (.cons (t := 6) rfl (.cons (t := 7) rfl (.cons (t := 8) rfl (.nil))))))) ?_
     refine sx_region ?_
     refine sm rfl rfl rfl rfl ?_
     refine sx_pure rfl rfl rfl (px_quo rfl rfl (by omega) (by omega) (by omega)) ?_
     refine sa rfl rfl rfl rfl ?_
     refine wl_nil ?_
     refine q_bn (q_n (k50 _ _ ?_))
     refine sx_region ?_
     refine sm rfl rfl rfl rfl ?_
     refine sx_pure rfl rfl rfl (px_add rfl rfl (by omega)) ?_
     refine sa rfl rfl rfl rfl ?_
     refine wl_nil ?_
     have q66 := Chg.step (l := w.heap.size) (h := ws3.heap.size) cwl7 cs63 (by omega)
     have q67 := Chg.step (l := w.heap.size) (h := ws3.heap.size) q66 cw64 (by omega)
     have hs : ((((c : Nat) : Int) + ((dg m).getD k 0)) : Int) = ((c : Nat) : Int) + (((dg m).getD k 0).toNat : Nat) + (((dg n).getD k 0).toNat : Nat) := by omega
     have hv2 : vl (os ++ [((((c : Nat) : Int) + ((dg m).getD k 0))) % 1000000000]) + Bs ^ (k + 1) * (((((c : Nat) : Int) + ((dg m).getD k 0))) / 1000000000 : Int).toNat = vl ((dg m).take (k + 1)) + vl ((dg n).take (k + 1)) := by
      rw [vl_concat, hos, vl_take_succ', vl_take_succ', Nat.pow_succ]
      exact add_step hs hv
     have hX := mod_bd (s := (((c : Nat) : Int) + ((dg m).getD k 0))) (by omega)
     have hl3 : k + 1 ≤ max (dg m).length (dg n).length ∨ ((((((c : Nat) : Int) + ((dg m).getD k 0))) / 1000000000 : Int).toNat = 0 ∧ k + 1 = max (dg m).length (dg n).length + 1 ∧ Bs ^ (k + 1 - 1) ≤ vl (os ++ [((((c : Nat) : Int) + ((dg m).getD k 0))) % 1000000000])) := by
      by_cases hkM : k + 1 ≤ max (dg m).length (dg n).length
      · exact .inl hkM
      · first
       | (exfalso; omega)
       | (refine .inr ⟨by omega, by omega, ?_⟩; rw [vl_concat, hos, Nat.add_sub_cancel, show ((((c : Nat) : Int) + ((dg m).getD k 0))) % 1000000000 = 1 by omega]; exact Nat.le_trans (by simp) (Nat.le_add_left _ _))
     exact fun a ha => ⟨_, by omega, (k + 1), a64, (os ++ ([(((c : Nat) : Int) + ((dg m).getD k 0)) % 1000000000])), (((((c : Nat) : Int) + ((dg m).getD k 0))) / 1000000000 : Int).toNat, ha.sub (Sub.cons (t := 0) rfl (.cons (t := 1) rfl (.cons (t := 5) rfl (.cons (t := 6) (look_int (t := 6) rfl (by first | omega | simp)) (.cons (t := 7) (look_int (t := 7) rfl (by first | omega | simp)) (.nil)))))), q67, (nw64.mono (by omega) (by omega)), rfl, by simp [hos], hlm.append (Lm.single hX.1 hX.2), by omega, hv2, hl3⟩
   ·
    have gm := getD_ge (zs := dg m) (k := k) (by omega)
    refine sx_skip ?_
    refine q_n (k52 _ _ ?_)
    refine sx_seq fun K68 k68 => ?_
    refine sx_seq fun K69 k69 => sx_region ?_
    refine sm rfl rfl rfl rfl ?_
    refine sm rfl rfl rfl rfl ?_
    refine sx_pure rfl rfl rfl (px_len rfl Tryd.underlying22 f49) ?_
    refine sx_pure rfl rfl rfl (px_lt rfl rfl) ?_
    refine wl_nil (q_n (k69 _ _ ?_))
    refine sx_sub (Sub.cons (t := 0) rfl (.cons (t := 1) rfl (.cons (t := 5) rfl (.cons (t := 6) rfl (.cons (t := 7) rfl (.cons (t := 8) rfl (.cons (t := 40) rfl (.nil)))))))) ?_
    refine sx_condP rfl (fun h87 => ?_) (fun h87 => ?_)
    ·
     refine sx_region ?_
     refine sm rfl rfl rfl rfl ?_
     refine sm rfl rfl rfl rfl ?_
     refine sm rfl rfl rfl rfl ?_
     refine sx_pure rfl rfl rfl (px_index1 (j := k) rfl rfl (by omega) Tryd.underlying22 Tryd.sizeOf3 f49 (by omega)) ?_
     refine sx_pure rfl rfl rfl (px_load rfl (f49.load1 (at_int (by omega)) Tryd.isAgg3)) ?_
     refine sx_pure rfl rfl rfl (px_add rfl rfl (by omega)) ?_
     refine sa rfl rfl rfl rfl ?_
     refine wl_nil (q_n (k68 _ _ ?_))
     refine sx_seq fun K70 k70 => sx_region ?_
     refine sm rfl rfl rfl rfl ?_
     refine sm rfl rfl rfl rfl ?_
     refine sx_pure rfl rfl rfl (px_rem rfl rfl (by omega) (by omega)) ?_
     refine sx_lit1 rfl xelt22 rfl rfl (fun s71 ws71 ss71 fs71 cs71 => ?_)
     have ns71 := Own.norm (f := (Value.int .i64)) (zs := [(((c : Nat) : Int) + ((dg n).getD k 0)) % 1000000000]) fs71
     have zws71 := cs71.size
     have f73 := hs_s.ext cs71
     refine sx_append rfl xelt22 rfl rfl f73 ns71.sv one_int (by omega) (by simp only [List.length_cons, List.length_nil]; omega) (by unfold maxLen; simp only [List.length_cons, List.length_nil]; omega) (fun a72 w72 fw72 cw72 => ?_)
     have nw72 := Own.app (f := (Value.int .i64)) (a := os) (b := [(((c : Nat) : Int) + ((dg n).getD k 0)) % 1000000000]) fw72
     have zw72 := cw72.size
     refine sa rfl rfl rfl rfl ?_
     refine wl_nil (q_n (k70 _ _ ?_))
     refine sx_sub (Sub.cons (t := 0) rfl (.cons (t := 1) rfl (.cons (t := 5) rfl (.cons (t := 6) rfl (.cons (t := 7) rfl (.cons (t := 8) rfl (.nil))))))) ?_
     refine sx_region ?_
     refine sm rfl rfl rfl rfl ?_
     refine sx_pure rfl rfl rfl (px_quo rfl rfl (by omega) (by omega) (by omega)) ?_
     refine sa rfl rfl rfl rfl ?_
     refine wl_nil ?_
     refine q_bn (q_n (k50 _ _ ?_))
     refine sx_region ?_
     refine sm rfl rfl rfl rfl ?_
     refine sx_pure rfl rfl rfl (px_add rfl rfl (by omega)) ?_
     refine sa rfl rfl rfl rfl ?_
     refine wl_nil ?_
     have q74 := Chg.step (l := w.heap.size) (h := ws3.heap.size) cwl7 cs71 (by omega)
     have q75 := Chg.step (l := w.heap.size) (h := ws3.heap.size) q74 cw72 (by omega)
     have hs : ((((c : Nat) : Int) + ((dg n).getD k 0)) : Int) = ((c : Nat) : Int) + (((dg m).getD k 0).toNat : Nat) + (((dg n).getD k 0).toNat : Nat) := by omega
     have hv2 : vl (os ++ [((((c : Nat) : Int) + ((dg n).getD k 0))) % 1000000000]) + Bs ^ (k + 1) * (((((c : Nat) : Int) + ((dg n).getD k 0))) / 1000000000 : Int).toNat = vl ((dg m).take (k + 1)) + vl ((dg n).take (k + 1)) := by
      rw [vl_concat, hos, vl_take_succ', vl_take_succ', Nat.pow_succ]
      exact add_step hs hv
     have hX := mod_bd (s := (((c : Nat) : Int) + ((dg n).getD k 0))) (by omega)
     have hl3 : k + 1 ≤ max (dg m).length (dg n).length ∨ ((((((c : Nat) : Int) + ((dg n).getD k 0))) / 1000000000 : Int).toNat = 0 ∧ k + 1 = max (dg m).length (dg n).length + 1 ∧ Bs ^ (k + 1 - 1) ≤ vl (os ++ [((((c : Nat) : Int) + ((dg n).getD k 0))) % 1000000000])) := by
      by_cases hkM : k + 1 ≤ max (dg m).length (dg n).length
      · exact .inl hkM
      · first
       | (exfalso; omega)
       | (refine .inr ⟨by omega, by omega, ?_⟩; rw [vl_concat, hos, Nat.add_sub_cancel, show ((((c : Nat) : Int) + ((dg n).getD k 0))) % 1000000000 = 1 by omega]; exact Nat.le_trans (by simp) (Nat.le_add_left _ _))
     exact fun a ha => ⟨_, by omega, (k + 1), a72, (os ++ ([(((c : Nat) : Int) + ((dg n).getD k 0)) % 1000000000])), (((((c : Nat) : Int) + ((dg n).getD k 0))) / 1000000000 : Int).toNat, ha.sub (Sub.cons (t := 0) rfl (.cons (t := 1) rfl (.cons (t := 5) rfl (.cons (t := 6) (look_int (t := 6) rfl (by first | omega | simp)) (.cons (t := 7) (look_int (t := 7) rfl (by first | omega | simp)) (.nil)))))), q75, (nw72.mono (by omega) (by omega)), rfl, by simp [hos], hlm.append (Lm.single hX.1 hX.2), by omega, hv2, hl3⟩
    ·
     have gn := getD_ge (zs := dg n) (k := k) (by omega)
     refine sx_skip ?_
     refine q_n (k68 _ _ ?_)
     refine sx_seq fun K76 k76 => sx_region ?_
     refine sm rfl rfl rfl rfl ?_
     refine sm rfl rfl rfl rfl ?_
     refine sx_pure rfl rfl rfl (px_rem rfl rfl (by omega) (by omega)) ?_
     refine sx_lit1 rfl xelt22 rfl rfl (fun s77 ws77 ss77 fs77 cs77 => ?_)
     have ns77 := Own.norm (f := (Value.int .i64)) (zs := [((c : Nat) : Int) % 1000000000]) fs77
     have zws77 := cs77.size
     have f79 := hs_s.ext cs77
     refine sx_append rfl xelt22 rfl rfl f79 ns77.sv one_int (by omega) (by simp only [List.length_cons, List.length_nil]; omega) (by unfold maxLen; simp only [List.length_cons, List.length_nil]; omega) (fun a78 w78 fw78 cw78 => ?_)
     have nw78 := Own.app (f := (Value.int .i64)) (a := os) (b := [((c : Nat) : Int) % 1000000000]) fw78
     have zw78 := cw78.size
     refine sa rfl rfl rfl rfl ?_
     refine wl_nil (q_n (k76 _ _ ?_))
     refine sx_region ?_
     refine sm rfl rfl rfl rfl ?_
     refine sx_pure rfl rfl rfl (px_quo rfl rfl (by omega) (by omega) (by omega)) ?_
     refine sa rfl rfl rfl rfl ?_
     refine wl_nil ?_
     refine q_bn (q_n (k50 _ _ ?_))
     refine sx_region ?_
     refine sm rfl rfl rfl rfl ?_
     refine sx_pure rfl rfl rfl (px_add rfl rfl (by omega)) ?_
     refine sa rfl rfl rfl rfl ?_
     refine wl_nil ?_
     have q80 := Chg.step (l := w.heap.size) (h := ws3.heap.size) cwl7 cs77 (by omega)
     have q81 := Chg.step (l := w.heap.size) (h := ws3.heap.size) q80 cw78 (by omega)
     have hs : (((c : Nat) : Int) : Int) = ((c : Nat) : Int) + (((dg m).getD k 0).toNat : Nat) + (((dg n).getD k 0).toNat : Nat) := by omega
     have hv2 : vl (os ++ [(((c : Nat) : Int)) % 1000000000]) + Bs ^ (k + 1) * ((((c : Nat) : Int)) / 1000000000 : Int).toNat = vl ((dg m).take (k + 1)) + vl ((dg n).take (k + 1)) := by
      rw [vl_concat, hos, vl_take_succ', vl_take_succ', Nat.pow_succ]
      exact add_step hs hv
     have hX := mod_bd (s := ((c : Nat) : Int)) (by omega)
     have hl3 : k + 1 ≤ max (dg m).length (dg n).length ∨ (((((c : Nat) : Int)) / 1000000000 : Int).toNat = 0 ∧ k + 1 = max (dg m).length (dg n).length + 1 ∧ Bs ^ (k + 1 - 1) ≤ vl (os ++ [(((c : Nat) : Int)) % 1000000000])) := by
      by_cases hkM : k + 1 ≤ max (dg m).length (dg n).length
      · exact .inl hkM
      · first
       | (exfalso; omega)
       | (refine .inr ⟨by omega, by omega, ?_⟩; rw [vl_concat, hos, Nat.add_sub_cancel, show (((c : Nat) : Int)) % 1000000000 = 1 by omega]; exact Nat.le_trans (by simp) (Nat.le_add_left _ _))
     exact fun a ha => ⟨_, by omega, (k + 1), a78, (os ++ ([((c : Nat) : Int) % 1000000000])), ((((c : Nat) : Int)) / 1000000000 : Int).toNat, ha.sub (Sub.cons (t := 0) rfl (.cons (t := 1) rfl (.cons (t := 5) rfl (.cons (t := 6) (look_int (t := 6) rfl (by first | omega | simp)) (.cons (t := 7) (look_int (t := 7) rfl (by first | omega | simp)) (.nil)))))), q81, (nw78.mono (by omega) (by omega)), rfl, by simp [hos], hlm.append (Lm.single hX.1 hX.2), by omega, hv2, hl3⟩
  ·
   refine sx_guardT rfl rfl rfl ?_
   refine sm rfl rfl rfl rfl ?_
   refine sx_guardT rfl rfl rfl ?_
   refine sx_pure rfl rfl rfl (px_gt rfl rfl) ?_
   refine sx_pure rfl rfl rfl (px_pick rfl rfl) ?_
   refine wl_nil (q_n (k9 _ _ ?_))
   refine sx_sub (Sub.cons (t := 0) rfl (.cons (t := 1) rfl (.cons (t := 5) rfl (.cons (t := 6) rfl (.cons (t := 7) rfl (.cons (t := 23) rfl (.nil))))))) ?_
   refine sx_condP rfl (fun h82x2 => ?_) (fun h82x2 => ?_)
   ·
    refine sx_skip ?_
    refine q_n (k8 _ _ ?_)
    refine sx_seq fun K82 k82 => ?_
    refine sx_block ?_
    refine sx_seq fun K83 k83 => sx_region ?_
    refine sm rfl rfl rfl rfl ?_
    refine sa rfl rfl rfl rfl ?_
    refine wl_nil (q_n (k83 _ _ ?_))
    refine sx_seq fun K84 k84 => ?_
    refine sx_seq fun K85 k85 => sx_region ?_
    refine sm rfl rfl rfl rfl ?_
    refine sm rfl rfl rfl rfl ?_
    refine sx_pure rfl rfl rfl (px_len rfl Tryd.underlying22 f11) ?_
    refine sx_pure rfl rfl rfl (px_lt rfl rfl) ?_
    refine wl_nil (q_n (k85 _ _ ?_))
    refine sx_condP rfl (fun h84 => ?_) (fun h84 => ?_)
    ·
     refine sx_region ?_
     refine sm rfl rfl rfl rfl ?_
     refine sm rfl rfl rfl rfl ?_
     refine sm rfl rfl rfl rfl ?_
     refine sx_pure rfl rfl rfl (px_index1 (j := k) rfl rfl (by omega) Tryd.underlying22 Tryd.sizeOf3 f11 (by omega)) ?_
     refine sx_pure rfl rfl rfl (px_load rfl (f11.load1 (at_int (by omega)) Tryd.isAgg3)) ?_
     refine sx_pure rfl rfl rfl (px_add rfl rfl (by omega)) ?_
     refine sa rfl rfl rfl rfl ?_
     refine wl_nil (q_n (k84 _ _ ?_))
     refine sx_sub (Sub.cons (t := 0) rfl (.cons (t := 1) rfl (.cons (t := 5) rfl (.cons (t := 6) rfl (.cons (t := 7) rfl (.cons (t := 8) rfl (.nil))))))) ?_
     refine sx_seq fun K86 k86 => ?_
     refine sx_seq fun K87 k87 => sx_region ?_
     refine sm rfl rfl rfl rfl ?_
     refine sm rfl rfl rfl rfl ?_
     refine sx_pure rfl rfl rfl (px_len rfl Tryd.underlying22 f49) ?_
     refine sx_pure rfl rfl rfl (px_lt rfl rfl) ?_
     refine wl_nil (q_n (k87 _ _ ?_))
     refine sx_condP rfl (fun h87 => ?_) (fun h87 => ?_)
     ·
      refine sx_region ?_
      refine sm rfl rfl rfl rfl ?_
      refine sm rfl rfl rfl rfl ?_
      refine sm rfl rfl rfl rfl ?_
      refine sx_pure rfl rfl rfl (px_index1 (j := k) rfl rfl (by omega) Tryd.underlying22 Tryd.sizeOf3 f49 (by omega)) ?_
      refine sx_pure rfl rfl rfl (px_load rfl (f49.load1 (at_int (by omega)) Tryd.isAgg3)) ?_
      refine sx_pure rfl rfl rfl (px_add rfl rfl (by omega)) ?_
      refine sa rfl rfl rfl rfl ?_
      refine wl_nil (q_n (k86 _ _ ?_))
      refine sx_sub (Sub.cons (t := 0) rfl (.cons (t := 1) rfl (.cons (t := 5) rfl (.cons (t := 6) rfl (.cons (t := 7) rfl (.cons (t := 8) rfl (.nil))))))) ?_
      refine sx_seq fun K88 k88 => sx_region ?_
      refine sm rfl rfl rfl rfl ?_
      refine sm rfl rfl rfl rfl ?_
      refine sx_pure rfl rfl rfl (px_rem rfl rfl (by omega) (by omega)) ?_
      refine sx_lit1 rfl xelt22 rfl rfl (fun s89 ws89 ss89 fs89 cs89 => ?_)
      have ns89 := Own.norm (f := (Value.int .i64)) (zs := [((((c : Nat) : Int) + ((dg m).getD k 0)) + ((dg n).getD k 0)) % 1000000000]) fs89
      have zws89 := cs89.size
      have f91 := hs_s.ext cs89
      refine sx_append rfl xelt22 rfl rfl f91 ns89.sv one_int (by omega) (by simp only [List.length_cons, List.length_nil]; omega) (by unfold maxLen; simp only [List.length_cons, List.length_nil]; omega) (fun a90 w90 fw90 cw90 => ?_)
      have nw90 := Own.app (f := (Value.int .i64)) (a := os) (b := [((((c : Nat) : Int) + ((dg m).getD k 0)) + ((dg n).getD k 0)) % 1000000000]) fw90
      have zw90 := cw90.size
      refine sa rfl rfl rfl rfl ?_
      refine wl_nil (q_n (k88 _ _ ?_))
      refine sx_region ?_
      refine sm rfl rfl rfl rfl ?_
      refine sx_pure rfl rfl rfl (px_quo rfl rfl (by omega) (by omega) (by omega)) ?_
      refine sa rfl rfl rfl rfl ?_
      refine wl_nil ?_
      refine q_bn (q_n (k82 _ _ ?_))
      refine sx_region ?_
      refine sm rfl rfl rfl rfl ?_
      refine sx_pure rfl rfl rfl (px_add rfl rfl (by omega)) ?_
      refine sa rfl rfl rfl rfl ?_
      refine wl_nil ?_
      have q92 := Chg.step (l := w.heap.size) (h := ws3.heap.size) cwl7 cs89 (by omega)
      have q93 := Chg.step (l := w.heap.size) (h := ws3.heap.size) q92 cw90 (by omega)
      have hs : (((((c : Nat) : Int) + ((dg m).getD k 0)) + ((dg n).getD k 0)) : Int) = ((c : Nat) : Int) + (((dg m).getD k 0).toNat : Nat) + (((dg n).getD k 0).toNat : Nat) := by omega
      have hv2 : vl (os ++ [(((((c : Nat) : Int) + ((dg m).getD k 0)) + ((dg n).getD k 0))) % 1000000000]) + Bs ^ (k + 1) * ((((((c : Nat) : Int) + ((dg m).getD k 0)) + ((dg n).getD k 0))) / 1000000000 : Int).toNat = vl ((dg m).take (k + 1)) + vl ((dg n).take (k + 1)) := by
       rw [vl_concat, hos, vl_take_succ', vl_take_succ', Nat.pow_succ]
       exact add_step hs hv
      have hX := mod_bd (s := ((((c : Nat) : Int) + ((dg m).getD k 0)) + ((dg n).getD k 0))) (by omega)
      have hl3 : k + 1 ≤ max (dg m).length (dg n).length ∨ (((((((c : Nat) : Int) + ((dg m).getD k 0)) + ((dg n).getD k 0))) / 1000000000 : Int).toNat = 0 ∧ k + 1 = max (dg m).length (dg n).length + 1 ∧ Bs ^ (k + 1 - 1) ≤ vl (os ++ [(((((c : Nat) : Int) + ((dg m).getD k 0)) + ((dg n).getD k 0))) % 1000000000])) := by
       by_cases hkM : k + 1 ≤ max (dg m).length (dg n).length
       · exact .inl hkM
       · first
        | (exfalso; omega)
        | (refine .inr ⟨by omega, by omega, ?_⟩; rw [vl_concat, hos, Nat.add_sub_cancel, show (((((c : Nat) : Int) + ((dg m).getD k 0)) + ((dg n).getD k 0))) % 1000000000 = 1 by omega]; exact Nat.le_trans (by simp) (Nat.le_add_left _ _))
      exact fun a ha => ⟨_, by omega, (k + 1), a90, (os ++ ([((((c : Nat) : Int) + ((dg m).getD k 0)) + ((dg n).getD k 0)) % 1000000000])), ((((((c : Nat) : Int) + ((dg m).getD k 0)) + ((dg n).getD k 0))) / 1000000000 : Int).toNat, ha.sub (Sub.cons (t := 0) rfl (.cons (t := 1) rfl (.cons (t := 5) rfl (.cons (t := 6) (look_int (t := 6) rfl (by first | omega | simp)) (.cons (t := 7) (look_int (t := 7) rfl (by first | omega | simp)) (.nil)))))), q93, (nw90.mono (by omega) (by omega)), rfl, by simp [hos], hlm.append (Lm.single hX.1 hX.2), by omega, hv2, hl3⟩
     ·
      have gn := getD_ge (zs := dg n) (k := k) (by omega)
      refine sx_skip ?_
      refine q_n (k86 _ _ ?_)
      refine sx_seq fun K94 k94 => sx_region ?_
      refine sm rfl rfl rfl rfl ?_
      refine sm rfl rfl rfl rfl ?_
      refine sx_pure rfl rfl rfl (px_rem rfl rfl (by omega) (by omega)) ?_
      refine sx_lit1 rfl xelt22 rfl rfl (fun s95 ws95 ss95 fs95 cs95 => ?_)
      have ns95 := Own.norm (f := (Value.int .i64)) (zs := [(((c : Nat) : Int) + ((dg m).getD k 0)) % 1000000000]) fs95
      have zws95 := cs95.size
      have f97 := hs_s.ext cs95
      refine sx_append rfl xelt22 rfl rfl f97 ns95.sv one_int (by omega) (by simp only [List.length_cons, List.length_nil]; omega) (by unfold maxLen; simp only [List.length_cons, List.length_nil]; omega) (fun a96 w96 fw96 cw96 => ?_)
      have nw96 := Own.app (f := (Value.int .i64)) (a := os) (b := [(((c : Nat) : Int) + ((dg m).getD k 0)) % 1000000000]) fw96
      have zw96 := cw96.size
      refine sa rfl rfl rfl rfl ?_
      refine wl_nil (q_n (k94 _ _ ?_))
      refine sx_sub (Sub.cons (t := 0) rfl (.cons (t := 1) rfl (.cons (t := 5) rfl (.cons (t := 6) rfl (.cons (t := 7) rfl (.cons (t := 8) rfl (.nil))))))) ?_
      refine sx_region ?_
      refine sm rfl rfl rfl rfl ?_
      refine sx_pure rfl rfl rfl (px_quo rfl rfl (by omega) (by omega) (by omega)) ?_
      refine sa rfl rfl rfl rfl ?_
      refine wl_nil ?_
      refine q_bn (q_n (k82 _ _ ?_))
      refine sx_region ?_
      refine sm rfl rfl rfl rfl ?_
      refine sx_pure rfl rfl rfl (px_add rfl rfl (by omega)) ?_
      refine sa rfl rfl rfl rfl ?_
      refine wl_nil ?_
      have q98 := Chg.step (l := w.heap.size) (h := ws3.heap.size) cwl7 cs95 (by omega)
      have q99 := Chg.step (l := w.heap.size) (h := ws3.heap.size) q98 cw96 (by omega)
      have hs : ((((c : Nat) : Int) + ((dg m).getD k 0)) : Int) = ((c : Nat) : Int) + (((dg m).getD k 0).toNat : Nat) + (((dg n).getD k 0).toNat : Nat) := by omega
      have hv2 : vl (os ++ [((((c : Nat) : Int) + ((dg m).getD k 0))) % 1000000000]) + Bs ^ (k + 1) * (((((c : Nat) : Int) + ((dg m).getD k 0))) / 1000000000 : Int).toNat = vl ((dg m).take (k + 1)) + vl ((dg n).take (k + 1)) := by
       rw [vl_concat, hos, vl_take_succ', vl_take_succ', Nat.pow_succ]
       exact add_step hs hv
      have hX := mod_bd (s := (((c : Nat) : Int) + ((dg m).getD k 0))) (by omega)
      have hl3 : k + 1 ≤ max (dg m).length (dg n).length ∨ ((((((c : Nat) : Int) + ((dg m).getD k 0))) / 1000000000 : Int).toNat = 0 ∧ k + 1 = max (dg m).length (dg n).length + 1 ∧ Bs ^ (k + 1 - 1) ≤ vl (os ++ [((((c : Nat) : Int) + ((dg m).getD k 0))) % 1000000000])) := by
       by_cases hkM : k + 1 ≤ max (dg m).length (dg n).length
       · exact .inl hkM
       · first
        | (exfalso; omega)
        | (refine .inr ⟨by omega, by omega, ?_⟩; rw [vl_concat, hos, Nat.add_sub_cancel, show ((((c : Nat) : Int) + ((dg m).getD k 0))) % 1000000000 = 1 by omega]; exact Nat.le_trans (by simp) (Nat.le_add_left _ _))
      exact fun a ha => ⟨_, by omega, (k + 1), a96, (os ++ ([(((c : Nat) : Int) + ((dg m).getD k 0)) % 1000000000])), (((((c : Nat) : Int) + ((dg m).getD k 0))) / 1000000000 : Int).toNat, ha.sub (Sub.cons (t := 0) rfl (.cons (t := 1) rfl (.cons (t := 5) rfl (.cons (t := 6) (look_int (t := 6) rfl (by first | omega | simp)) (.cons (t := 7) (look_int (t := 7) rfl (by first | omega | simp)) (.nil)))))), q99, (nw96.mono (by omega) (by omega)), rfl, by simp [hos], hlm.append (Lm.single hX.1 hX.2), by omega, hv2, hl3⟩
    ·
     have gm := getD_ge (zs := dg m) (k := k) (by omega)
     refine sx_skip ?_
     refine q_n (k84 _ _ ?_)
     refine sx_seq fun K100 k100 => ?_
     refine sx_seq fun K101 k101 => sx_region ?_
     refine sm rfl rfl rfl rfl ?_
     refine sm rfl rfl rfl rfl ?_
     refine sx_pure rfl rfl rfl (px_len rfl Tryd.underlying22 f49) ?_
     refine sx_pure rfl rfl rfl (px_lt rfl rfl) ?_
     refine wl_nil (q_n (k101 _ _ ?_))
     refine sx_sub (Sub.cons (t := 0) rfl (.cons (t := 1) rfl (.cons (t := 5) rfl (.cons (t := 6) rfl (.cons (t := 7) rfl (.cons (t := 8) rfl (.cons (t := 40) rfl (.nil)))))))) ?_
     refine sx_condP rfl (fun h87 => ?_) (fun h87 => ?_)
     ·
      refine sx_region ?_
      refine sm rfl rfl rfl rfl ?_
      refine sm rfl rfl rfl rfl ?_
      refine sm rfl rfl rfl rfl ?_
      refine sx_pure rfl rfl rfl (px_index1 (j := k) rfl rfl (by omega) Tryd.underlying22 Tryd.sizeOf3 f49 (by omega)) ?_
      refine sx_pure rfl rfl rfl (px_load rfl (f49.load1 (at_int (by omega)) Tryd.isAgg3)) ?_
      refine sx_pure rfl rfl rfl (px_add rfl rfl (by omega)) ?_
      refine sa rfl rfl rfl rfl ?_
      refine wl_nil (q_n (k100 _ _ ?_))
      refine sx_seq fun K102 k102 => sx_region ?_
      refine sm rfl rfl rfl rfl ?_
      refine sm rfl rfl rfl rfl ?_
      refine sx_pure rfl rfl rfl (px_rem rfl rfl (by omega) (by omega)) ?_
      refine sx_lit1 rfl xelt22 rfl rfl (fun s103 ws103 ss103 fs103 cs103 => ?_)
      have ns103 := Own.norm (f := (Value.int .i64)) (zs := [(((c : Nat) : Int) + ((dg n).getD k 0)) % 1000000000]) fs103
      have zws103 := cs103.size
      have f105 := hs_s.ext cs103
      refine sx_append rfl xelt22 rfl rfl f105 ns103.sv one_int (by omega) (by simp only [List.length_cons, List.length_nil]; omega) (by unfold maxLen; simp only [List.length_cons, List.length_nil]; omega) (fun a104 w104 fw104 cw104 => ?_)
      have nw104 := Own.app (f := (Value.int .i64)) (a := os) (b := [(((c : Nat) : Int) + ((dg n).getD k 0)) % 1000000000]) fw104
      have zw104 := cw104.size
      refine sa rfl rfl rfl rfl ?_
      refine wl_nil (q_n (k102 _ _ ?_))
      refine sx_sub (Sub.cons (t := 0) rfl (.cons (t := 1) rfl (.cons (t := 5) rfl (.cons (t := 6) rfl (.cons (t := 7) rfl (.cons (t := 8) rfl (.nil))))))) ?_
      refine sx_region ?_
      refine sm rfl rfl rfl rfl ?_
      refine sx_pure rfl rfl rfl (px_quo rfl rfl (by omega) (by omega) (by omega)) ?_
      refine sa rfl rfl rfl rfl ?_
      refine wl_nil ?_
      refine q_bn (q_n (k82 _ _ ?_))
      refine sx_region ?_
      refine sm rfl rfl rfl rfl ?_
      refine sx_pure rfl rfl rfl (px_add rfl rfl (by omega)) ?_
      refine sa rfl rfl rfl rfl ?_
      refine wl_nil ?_
      have q106 := Chg.step (l := w.heap.size) (h := ws3.heap.size) cwl7 cs103 (by omega)
      have q107 := Chg.step (l := w.heap.size) (h := ws3.heap.size) q106 cw104 (by omega)
      have hs : ((((c : Nat) : Int) + ((dg n).getD k 0)) : Int) = ((c : Nat) : Int) + (((dg m).getD k 0).toNat : Nat) + (((dg n).getD k 0).toNat : Nat) := by omega
      have hv2 : vl (os ++ [((((c : Nat) : Int) + ((dg n).getD k 0))) % 1000000000]) + Bs ^ (k + 1) * (((((c : Nat) : Int) + ((dg n).getD k 0))) / 1000000000 : Int).toNat = vl ((dg m).take (k + 1)) + vl ((dg n).take (k + 1)) := by
       rw [vl_concat, hos, vl_take_succ', vl_take_succ', Nat.pow_succ]
       exact add_step hs hv
      have hX := mod_bd (s := (((c : Nat) : Int) + ((dg n).getD k 0))) (by omega)
      have hl3 : k + 1 ≤ max (dg m).length (dg n).length ∨ ((((((c : Nat) : Int) + ((dg n).getD k 0))) / 1000000000 : Int).toNat = 0 ∧ k + 1 = max (dg m).length (dg n).length + 1 ∧ Bs ^ (k + 1 - 1) ≤ vl (os ++ [((((c : Nat) : Int) + ((dg n).getD k 0))) % 1000000000])) := by
       by_cases hkM : k + 1 ≤ max (dg m).length (dg n).length
       · exact .inl hkM
       · first
        | (exfalso; omega)
        | (refine .inr ⟨by omega, by omega, ?_⟩; rw [vl_concat, hos, Nat.add_sub_cancel, show ((((c : Nat) : Int) + ((dg n).getD k 0))) % 1000000000 = 1 by omega]; exact Nat.le_trans (by simp) (Nat.le_add_left _ _))
      exact fun a ha => ⟨_, by omega, (k + 1), a104, (os ++ ([(((c : Nat) : Int) + ((dg n).getD k 0)) % 1000000000])), (((((c : Nat) : Int) + ((dg n).getD k 0))) / 1000000000 : Int).toNat, ha.sub (Sub.cons (t := 0) rfl (.cons (t := 1) rfl (.cons (t := 5) rfl (.cons (t := 6) (look_int (t := 6) rfl (by first | omega | simp)) (.cons (t := 7) (look_int (t := 7) rfl (by first | omega | simp)) (.nil)))))), q107, (nw104.mono (by omega) (by omega)), rfl, by simp [hos], hlm.append (Lm.single hX.1 hX.2), by omega, hv2, hl3⟩
     ·
      have gn := getD_ge (zs := dg n) (k := k) (by omega)
      refine sx_skip ?_
      refine q_n (k100 _ _ ?_)
      refine sx_seq fun K108 k108 => sx_region ?_
      refine sm rfl rfl rfl rfl ?_
      refine sm rfl rfl rfl rfl ?_
      refine sx_pure rfl rfl rfl (px_rem rfl rfl (by omega) (by omega)) ?_
      refine sx_lit1 rfl xelt22 rfl rfl (fun s109 ws109 ss109 fs109 cs109 => ?_)
      have ns109 := Own.norm (f := (Value.int .i64)) (zs := [((c : Nat) : Int) % 1000000000]) fs109
      have zws109 := cs109.size
      have f111 := hs_s.ext cs109
      refine sx_append rfl xelt22 rfl rfl f111 ns109.sv one_int (by omega) (by simp only [List.length_cons, List.length_nil]; omega) (by unfold maxLen; simp only [List.length_cons, List.length_nil]; omega) (fun a110 w110 fw110 cw110 => ?_)
      have nw110 := Own.app (f := (Value.int .i64)) (a := os) (b := [((c : Nat) : Int) % 1000000000]) fw110
      have zw110 := cw110.size
      refine sa rfl rfl rfl rfl ?_
      refine wl_nil (q_n (k108 _ _ ?_))
      refine sx_region ?_
      refine sm rfl rfl rfl rfl ?_
      refine sx_pure rfl rfl rfl (px_quo rfl rfl (by omega) (by omega) (by omega)) ?_
      refine sa rfl rfl rfl rfl ?_
      refine wl_nil ?_
      refine q_bn (q_n (k82 _ _ ?_))
      refine sx_region ?_
      refine sm rfl rfl rfl rfl ?_
      refine sx_pure rfl rfl rfl (px_add rfl rfl (by omega)) ?_
      refine sa rfl rfl rfl rfl ?_
      refine wl_nil ?_
      have q112 := Chg.step (l := w.heap.size) (h := ws3.heap.size) cwl7 cs109 (by omega)
      have q113 := Chg.step (l := w.heap.size) (h := ws3.heap.size) q112 cw110 (by omega)
      have hs : (((c : Nat) : Int) : Int) = ((c : Nat) : Int) + (((dg m).getD k 0).toNat : Nat) + (((dg n).getD k 0).toNat : Nat) := by omega
      have hv2 : vl (os ++ [(((c : Nat) : Int)) % 1000000000]) + Bs ^ (k + 1) * ((((c : Nat) : Int)) / 1000000000 : Int).toNat = vl ((dg m).take (k + 1)) + vl ((dg n).take (k + 1)) := by
       rw [vl_concat, hos, vl_take_succ', vl_take_succ', Nat.pow_succ]
       exact add_step hs hv
      have hX := mod_bd (s := ((c : Nat) : Int)) (by omega)
      have hl3 : k + 1 ≤ max (dg m).length (dg n).length ∨ (((((c : Nat) : Int)) / 1000000000 : Int).toNat = 0 ∧ k + 1 = max (dg m).length (dg n).length + 1 ∧ Bs ^ (k + 1 - 1) ≤ vl (os ++ [(((c : Nat) : Int)) % 1000000000])) := by
       by_cases hkM : k + 1 ≤ max (dg m).length (dg n).length
       · exact .inl hkM
       · first
        | (exfalso; omega)
        | (refine .inr ⟨by omega, by omega, ?_⟩; rw [vl_concat, hos, Nat.add_sub_cancel, show (((c : Nat) : Int)) % 1000000000 = 1 by omega]; exact Nat.le_trans (by simp) (Nat.le_add_left _ _))
      exact fun a ha => ⟨_, by omega, (k + 1), a110, (os ++ ([((c : Nat) : Int) % 1000000000])), ((((c : Nat) : Int)) / 1000000000 : Int).toNat, ha.sub (Sub.cons (t := 0) rfl (.cons (t := 1) rfl (.cons (t := 5) rfl (.cons (t := 6) (look_int (t := 6) rfl (by first | omega | simp)) (.cons (t := 7) (look_int (t := 7) rfl (by first | omega | simp)) (.nil)))))), q113, (nw110.mono (by omega) (by omega)), rfl, by simp [hos], hlm.append (Lm.single hX.1 hX.2), by omega, hv2, hl3⟩
   ·
    refine sx_exit ?_
    refine q_e (q_e (q_bx (q_n (k5 _ _ ?_))))
    refine sx_seq fun K114 k114 => ?_
    have hc0 : c = 0 := by omega
    subst hc0
    rw [Nat.mul_zero, Nat.add_zero, vl_take_ge (by omega), vl_take_ge (by omega), vl_dg, vl_dg] at hv
    have hd : os = dg (m + n) := add_end hlm hos hv hlast (by omega)
    subst hd
    refine sx_region ?_
    refine sm rfl rfl rfl rfl ?_
    refine sa rfl rfl rfl rfl ?_
    refine wl_nil (q_n (k114 _ _ ?_))
    refine sx_retc ?_
    refine sx_ret1 Tryd.results127 rfl ?_
    have q115 := Chg.step (l := 0) (h := 0) (Chg.zero (l := 0) (h := 0) cs3) cwl7 (by omega)
    exact ⟨_, rfl, (Own.sv hs_s).mono (by omega) (by omega), q115⟩

theorem c_l02Cmp {w : World} {va : Value} {lva uva : Nat} {zs : List Int} {vb : Value} {lvb uvb : Nat} {ys : List Int} (hva : Sl w lva uva va (zs)) (hvb : Sl w lvb uvb vb (ys)) (h63 : zs.length ≤ 4611686018427387904 ∧ ys.length ≤ 4611686018427387904) :
  Ret Tryd.prog 115 [va, vb] w fun v w' => v = .int .i64 (cmpL zs ys) ∧ Chg 0 0 w w' := by
 have hva0 := hva.fit
 have hvb0 := hvb.fit
 have zs0 : zs.drop zs.length = [] := by simp
 have ys0 : ys.drop ys.length = [] := by simp
 refine sx_enter Tryd.func115 rfl Tryd.ntmps115 (Nat.le_of_ble_eq_true rfl) ?_
 refine sx_seq fun K1 k1 => sx_region ?_
 refine sa rfl rfl rfl rfl ?_
 refine wl_nil (q_n (k1 _ _ ?_))
 refine sx_seq fun K2 k2 => ?_
 refine sx_seq fun K3 k3 => sx_region ?_
 refine sm rfl rfl rfl rfl ?_
 refine sx_pure rfl rfl rfl (px_len rfl Tryd.underlying22 hva0) ?_
 refine sm rfl rfl rfl rfl ?_
 refine sx_pure rfl rfl rfl (px_len rfl Tryd.underlying22 hvb0) ?_
 refine sx_pure rfl rfl rfl (px_ne rfl rfl) ?_
 refine wl_nil (q_n (k3 _ _ ?_))
 refine sx_condP rfl (fun h54 => ?_) (fun h54 => ?_)
 ·
  refine sx_seq fun K4 k4 => ?_
  refine sx_seq fun K5 k5 => sx_region ?_
  refine sm rfl rfl rfl rfl ?_
  refine sx_pure rfl rfl rfl (px_len rfl Tryd.underlying22 hva0) ?_
  refine sm rfl rfl rfl rfl ?_
  refine sx_pure rfl rfl rfl (px_len rfl Tryd.underlying22 hvb0) ?_
  refine sx_pure rfl rfl rfl (px_lt rfl rfl) ?_
  refine wl_nil (q_n (k5 _ _ ?_))
  refine sx_condP rfl (fun h55 => ?_) (fun h55 => ?_)
  ·
   refine sx_seq fun K6 k6 => sx_region ?_
   refine sa rfl rfl rfl rfl ?_
   refine wl_nil (q_n (k6 _ _ ?_))
   refine sx_retc ?_
   refine q_r (q_r (sx_ret1 Tryd.results115 rfl ?_))
   exact ⟨iEq (cmpL_short (by omega)).symm, (Chg.refl 0 0 _)⟩
  ·
   refine sx_skip ?_
   refine q_n (k4 _ _ ?_)
   refine sx_seq fun K7 k7 => sx_region ?_
   refine sa rfl rfl rfl rfl ?_
   refine wl_nil (q_n (k7 _ _ ?_))
   refine sx_retc ?_
   refine q_r (sx_ret1 Tryd.results115 rfl ?_)
   exact ⟨iEq (cmpL_long (by omega)).symm, (Chg.refl 0 0 _)⟩
 ·
  refine sx_skip ?_
  refine q_n (k2 _ _ ?_)
  refine sx_seq fun K8 k8 => ?_
  refine sx_seq fun K9 k9 => sx_region ?_
  refine sm rfl rfl rfl rfl ?_
  refine sx_pure rfl rfl rfl (px_len rfl Tryd.underlying22 hva0) ?_
  refine sx_pure rfl rfl rfl (px_sub rfl rfl (by omega)) ?_
  refine sa rfl rfl rfl rfl ?_
  refine wl_nil (q_n (k9 _ _ ?_))
  refine sx_block ?_
  have e00 : zs.length = ys.length := by omega
  have he0 : zs.drop zs.length = ys.drop zs.length := by rw [zs0, e00, ys0]
  refine sx_loop (fun mm aa w' => ∃ (k : Nat), Agr 41 [(0, va), (1, vb), (5, .int .i64 (↑k - 1))] aa ∧ Chg 0 0 w w' ∧ (mm = k) ∧ (k ≤ zs.length) ∧ (zs.drop k = ys.drop k)) (_) (fun a ha => ⟨zs.length, ha.sub (Sub.cons (t := 0) rfl (.cons (t := 1) rfl (.cons (t := 5) (look_int (t := 5) rfl (by first | omega | simp)) (.nil)))), Chg.refl _ _ _, rfl, by omega, he0⟩) ?_
  rintro mm aa wl10 ⟨k, hAwl10, cwl10, hm, hk, he⟩
  refine (show cw Tryd.prog 41 _ _ _ wl10 from ?_) aa hAwl10
  clear hAwl10
  have zwl10 := cwl10.size
  have hl : zs.length = ys.length := by omega
  refine sx_seq fun K11 k11 => ?_
  refine sx_seq fun K12 k12 => sx_region ?_
  refine sm rfl rfl rfl rfl ?_
  refine sx_pure rfl rfl rfl (px_ge rfl rfl) ?_
  refine wl_nil (q_n (k12 _ _ ?_))
  refine sx_condP rfl (fun h60 => ?_) (fun h60 => ?_)
  ·
   refine sx_skip ?_
   refine q_n (k11 _ _ ?_)
   refine sx_seq fun K13 k13 => ?_
   refine sx_block ?_
   refine sx_seq fun K14 k14 => ?_
   refine sx_seq fun K15 k15 => ?_
   have f16 := hva0.ext cwl10
   have f17 := hvb0.ext cwl10
   refine dx_region (fun w' => Chg 0 0 wl10 w') (by kernel_rfl) (Chg.zero (Chg.drew _)) ?_
   have d18 := Chg.drew wl10
   have s18 : Chg 0 0 wl10 (World.drew wl10) := Chg.zero (Chg.drew _)
   have y18 : (World.drew wl10).heap.size = wl10.heap.size := rfl
   generalize World.drew wl10 = w18 at *
   have zw18 := d18.size
   refine dx_take 0 rfl rfl rfl rfl (by kernel_rfl) (by kernel_rfl) (by kernel_rfl) s18 (fun _ hS => px_move rfl) ?_
   refine dx_take 1 rfl rfl rfl rfl (by kernel_rfl) (by kernel_rfl) (by kernel_rfl) s18 (fun _ hS => px_move rfl) ?_
   refine dx_take 2 rfl rfl rfl rfl (by kernel_rfl) (by kernel_rfl) (by kernel_rfl) s18 (fun _ hS => px_index1 (j := (k - 1)) rfl rfl (by omega) Tryd.underlying22 Tryd.sizeOf3 ((f16).chg hS (by omega)) (by omega)) ?_
   refine dx_take 3 rfl rfl rfl rfl (by kernel_rfl) (by kernel_rfl) (by kernel_rfl) s18 (fun _ hS => px_load rfl (((f16).chg hS (by omega)).load1 (at_int (by omega)) Tryd.isAgg3)) ?_
   refine dx_take 4 rfl rfl rfl rfl (by kernel_rfl) (by kernel_rfl) (by kernel_rfl) s18 (fun _ hS => px_move rfl) ?_
   refine dx_take 5 rfl rfl rfl rfl (by kernel_rfl) (by kernel_rfl) (by kernel_rfl) s18 (fun _ hS => px_move rfl) ?_
   refine dx_take 6 rfl rfl rfl rfl (by kernel_rfl) (by kernel_rfl) (by kernel_rfl) s18 (fun _ hS => px_index1 (j := (k - 1)) rfl rfl (by omega) Tryd.underlying22 Tryd.sizeOf3 ((f17).chg hS (by omega)) (by omega)) ?_
   refine dx_take 7 rfl rfl rfl rfl (by kernel_rfl) (by kernel_rfl) (by kernel_rfl) s18 (fun _ hS => px_load rfl (((f17).chg hS (by omega)).load1 (at_int (by omega)) Tryd.isAgg3)) ?_
   refine dx_take 8 rfl rfl rfl rfl (by kernel_rfl) (by kernel_rfl) (by kernel_rfl) s18 (fun _ hS => px_lt rfl rfl) ?_
   refine dx_done (by kernel_rfl) ?_
   refine q_n (k15 _ _ ?_)
   refine sx_condP rfl (fun h61 => ?_) (fun h61 => ?_)
   ·
    refine sx_seq fun K19 k19 => sx_region ?_
    refine sa rfl rfl rfl rfl ?_
    refine wl_nil (q_n (k19 _ _ ?_))
    refine sx_sub (Sub.cons (t := 0) rfl (.cons (t := 1) rfl (.cons (t := 4) rfl (.cons (t := 5) rfl (.nil))))) ?_
    refine sx_retc ?_
    refine q_r (q_br (q_r (q_r (q_br (q_r (sx_ret1 Tryd.results115 rfl ?_))))))
    have hlt := cmpL_lt hl (k := k - 1) (by omega) (by rw [Nat.sub_add_cancel (by omega)]; exact he) (h61)
    exact ⟨iEq hlt.symm, (cwl10.t d18)⟩
   ·
    refine sx_skip ?_
    refine q_n (k14 _ _ ?_)
    refine sx_seq fun K20 k20 => ?_
    have f21 := f16.ext d18
    have f22 := f17.ext d18
    refine dx_region (fun w' => Chg 0 0 w18 w') (by kernel_rfl) (Chg.zero (Chg.drew _)) ?_
    have d23 := Chg.drew w18
    have s23 : Chg 0 0 w18 (World.drew w18) := Chg.zero (Chg.drew _)
    have y23 : (World.drew w18).heap.size = w18.heap.size := rfl
    generalize World.drew w18 = w23 at *
    have zw23 := d23.size
    refine dx_take 0 rfl rfl rfl rfl (by kernel_rfl) (by kernel_rfl) (by kernel_rfl) s23 (fun _ hS => px_move rfl) ?_
    refine dx_take 1 rfl rfl rfl rfl (by kernel_rfl) (by kernel_rfl) (by kernel_rfl) s23 (fun _ hS => px_move rfl) ?_
    refine dx_take 2 rfl rfl rfl rfl (by kernel_rfl) (by kernel_rfl) (by kernel_rfl) s23 (fun _ hS => px_index1 (j := (k - 1)) rfl rfl (by omega) Tryd.underlying22 Tryd.sizeOf3 ((f21).chg hS (by omega)) (by omega)) ?_
    refine dx_take 3 rfl rfl rfl rfl (by kernel_rfl) (by kernel_rfl) (by kernel_rfl) s23 (fun _ hS => px_load rfl (((f21).chg hS (by omega)).load1 (at_int (by omega)) Tryd.isAgg3)) ?_
    refine dx_take 4 rfl rfl rfl rfl (by kernel_rfl) (by kernel_rfl) (by kernel_rfl) s23 (fun _ hS => px_move rfl) ?_
    refine dx_take 5 rfl rfl rfl rfl (by kernel_rfl) (by kernel_rfl) (by kernel_rfl) s23 (fun _ hS => px_move rfl) ?_
    refine dx_take 6 rfl rfl rfl rfl (by kernel_rfl) (by kernel_rfl) (by kernel_rfl) s23 (fun _ hS => px_index1 (j := (k - 1)) rfl rfl (by omega) Tryd.underlying22 Tryd.sizeOf3 ((f22).chg hS (by omega)) (by omega)) ?_
    refine dx_take 7 rfl rfl rfl rfl (by kernel_rfl) (by kernel_rfl) (by kernel_rfl) s23 (fun _ hS => px_load rfl (((f22).chg hS (by omega)).load1 (at_int (by omega)) Tryd.isAgg3)) ?_
    refine dx_take 8 rfl rfl rfl rfl (by kernel_rfl) (by kernel_rfl) (by kernel_rfl) s23 (fun _ hS => px_gt rfl rfl) ?_
    refine dx_done (by kernel_rfl) ?_
    refine q_n (k20 _ _ ?_)
    refine sx_sub (Sub.cons (t := 0) rfl (.cons (t := 1) rfl (.cons (t := 5) rfl (.cons (t := 40) rfl (.nil))))) ?_
    refine sx_condP rfl (fun h64 => ?_) (fun h64 => ?_)
    ·
     refine sx_seq fun K24 k24 => sx_region ?_
     refine sa rfl rfl rfl rfl ?_
     refine wl_nil (q_n (k24 _ _ ?_))
     refine sx_retc ?_
     refine q_br (q_r (q_r (q_br (q_r (sx_ret1 Tryd.results115 rfl ?_)))))
     have hlt := cmpL_gt hl (k := k - 1) (by omega) (by rw [Nat.sub_add_cancel (by omega)]; exact he) (h64)
     exact ⟨iEq hlt.symm, ((cwl10.t d18).t d23)⟩
    ·
     refine sx_skip ?_
     refine q_bn (q_n (k13 _ _ ?_))
     refine sx_region ?_
     refine sm rfl rfl rfl rfl ?_
     refine sx_pure rfl rfl rfl (px_sub rfl rfl (by omega)) ?_
     refine sa rfl rfl rfl rfl ?_
     refine wl_nil ?_
     exact fun a ha => ⟨_, by omega, (k - 1), ha.sub (Sub.cons (t := 0) rfl (.cons (t := 1) rfl (.cons (t := 5) (look_int (t := 5) rfl (by first | omega | simp)) (.nil)))), ((cwl10.t d18).t d23), rfl, by omega, drop_succ_eq (by omega) (by omega) (by rw [Nat.sub_add_cancel (by omega)]; exact he) (by omega)⟩
  ·
   refine sx_exit ?_
   refine q_e (q_e (q_bx (q_n (k8 _ _ ?_))))
   refine sx_seq fun K25 k25 => sx_region ?_
   refine sa rfl rfl rfl rfl ?_
   refine wl_nil (q_n (k25 _ _ ?_))
   refine sx_retc ?_
   refine sx_ret1 Tryd.results115 rfl ?_
   have e1 : k = 0 := by omega
   subst e1
   have e2 : zs = ys := by simpa using he
   subst e2
   exact ⟨iEq (cmpL_self zs).symm, cwl10⟩

theorem c_l02Sub {w : World} {va : Value} {lva uva : Nat} {m : Nat} {vb : Value} {lvb uvb : Nat} {n : Nat} (hva : Sl w lva uva va (dg m)) (hvb : Sl w lvb uvb vb (dg n)) (hbm : (dg m).length ≤ 1000) (hbn : (dg n).length ≤ 1000) (hle : n ≤ m) :
  Ret Tryd.prog 128 [va, vb] w fun v w' => ∃ s, v = s ∧ Sl w' (w.heap.size) (w'.heap.size) s (dg (m - n)) ∧ Chg 0 0 w w' := by
 have hva0 := hva.fit
 have hvb0 := hvb.fit
 refine sx_enter Tryd.func128 rfl Tryd.ntmps128 (Nat.le_of_ble_eq_true rfl) ?_
 refine sx_seq fun K1 k1 => sx_region ?_
 refine sa rfl rfl rfl rfl ?_
 refine wl_nil (q_n (k1 _ _ ?_))
 refine sx_seq fun K2 k2 => sx_region ?_
 refine sx_lit0 rfl xelt22 (fun s3 ws3 ss3 fs3 cs3 => ?_)
 have zws3 := cs3.size
 refine sa rfl rfl rfl rfl ?_
 refine wl_nil (q_n (k2 _ _ ?_))
 refine sx_seq fun K4 k4 => sx_region ?_
 refine sa rfl rfl rfl rfl ?_
 refine wl_nil (q_n (k4 _ _ ?_))
 refine sx_seq fun K5 k5 => ?_
 refine sx_seq fun K6 k6 => sx_region ?_
 refine sm rfl rfl rfl rfl ?_
 have f7 := hva0.ext cs3
 refine sx_pure rfl rfl rfl (px_len rfl Tryd.underlying22 f7) ?_
 refine sm rfl rfl rfl rfl ?_
 refine wl_nil (q_n (k6 _ _ ?_))
 refine sx_block ?_
 refine sx_loop (fun mm aa w' => ∃ (k : Nat) (s : Value) (os : List Int) (c : Nat), Agr 42 [(0, va), (1, vb), (5, s), (6, .int .i64 ((c : Nat) : Int)), (11, .int .i64 (↑(dg m).length)), (12, .int .i64 ↑k)] aa ∧ Chg w.heap.size ws3.heap.size ws3 w' ∧ Own w' w.heap.size w'.heap.size s intT os.length 1 (os.map (Value.int .i64)) ∧ (mm = (dg m).length - k) ∧ (os.length = k) ∧ (Lm os) ∧ (c ≤ 1) ∧ (k ≤ (dg m).length) ∧ (vl ((dg m).take k) + Bs ^ k * c = vl (os) + vl ((dg n).take k))) (_) (fun a ha => ⟨0, s3, [], 0, ha.sub (Sub.cons (t := 0) rfl (.cons (t := 1) rfl (.cons (t := 5) rfl (.cons (t := 6) (look_int (t := 6) rfl (by first | omega | simp)) (.cons (t := 11) (look_int (t := 11) rfl (by first | omega | simp)) (.cons (t := 12) (look_int (t := 12) rfl (by first | omega | simp)) (.nil))))))), Chg.refl _ _ _, (fs3.mono (by omega) (by omega)), rfl, by simp, Lm.nil, by omega, by omega, by simp [vl]⟩) ?_
 rintro mm aa wl8 ⟨k, s, os, c, hAwl8, cwl8, hs_s, hm, hos, hlm, hc, hk, hv⟩
 refine (show cw Tryd.prog 42 _ _ _ wl8 from ?_) aa hAwl8
 clear hAwl8
 have zwl8 := cwl8.size
 have am := (Lm_dg m).getD k
 have bn := (Lm_dg n).getD k
 refine sx_seq fun K9 k9 => sx_region ?_
 refine sx_pure rfl rfl rfl (px_lt rfl rfl) ?_
 refine wl_nil (q_n (k9 _ _ ?_))
 refine sx_seq fun K10 k10 => ?_
 refine sx_condP rfl (fun h107 => ?_) (fun h107 => ?_)
 ·
  refine sx_skip ?_
  refine q_n (k10 _ _ ?_)
  refine sx_seq fun K11 k11 => ?_
  refine sx_block ?_
  refine sx_seq fun K12 k12 => sx_region ?_
  refine sm rfl rfl rfl rfl ?_
  refine sa rfl rfl rfl rfl ?_
  refine wl_nil (q_n (k12 _ _ ?_))
  refine sx_seq fun K13 k13 => sx_region ?_
  refine sm rfl rfl rfl rfl ?_
  refine sm rfl rfl rfl rfl ?_
  have f14 := f7.chg cwl8 (by omega)
  refine sx_pure rfl rfl rfl (px_index1 (j := k) rfl rfl (by omega) Tryd.underlying22 Tryd.sizeOf3 f14 (by omega)) ?_
  refine sx_pure rfl rfl rfl (px_load rfl (f14.load1 (at_int (by omega)) Tryd.isAgg3)) ?_
  refine sm rfl rfl rfl rfl ?_
  refine sx_pure rfl rfl rfl (px_sub rfl rfl (by omega)) ?_
  refine sa rfl rfl rfl rfl ?_
  refine wl_nil (q_n (k13 _ _ ?_))
  refine sx_sub (Sub.cons (t := 0) rfl (.cons (t := 1) rfl (.cons (t := 5) rfl (.cons (t := 6) rfl (.cons (t := 7) rfl (.cons (t := 8) rfl (.cons (t := 11) rfl (.cons (t := 12) rfl (.nil))))))))) ?_
  refine sx_seq fun K15 k15 => ?_
  refine sx_seq fun K16 k16 => sx_region ?_
  refine sm rfl rfl rfl rfl ?_
  refine sm rfl rfl rfl rfl ?_
  have f17 := hvb0.ext cs3
  have f18 := f17.chg cwl8 (by omega)
  refine sx_pure rfl rfl rfl (px_len rfl Tryd.underlying22 f18) ?_
  refine sx_pure rfl rfl rfl (px_lt rfl rfl) ?_
  refine wl_nil (q_n (k16 _ _ ?_))
  refine sx_condP rfl (fun h109 => ?_) (fun h109 => ?_)
  ·
   refine sx_region ?_
   refine sm rfl rfl rfl rfl ?_
   refine sm rfl rfl rfl rfl ?_
   refine sm rfl rfl rfl rfl ?_
   refine sx_pure rfl rfl rfl (px_index1 (j := k) rfl rfl (by omega) Tryd.underlying22 Tryd.sizeOf3 f18 (by omega)) ?_
   refine sx_pure rfl rfl rfl (px_load rfl (f18.load1 (at_int (by omega)) Tryd.isAgg3)) ?_
   refine sx_pure rfl rfl rfl (px_sub rfl rfl (by omega)) ?_
   refine sa rfl rfl rfl rfl ?_
   refine wl_nil (q_n (k15 _ _ ?_))
   refine sx_sub (Sub.cons (t := 0) rfl (.cons (t := 1) rfl (.cons (t := 5) rfl (.cons (t := 6) rfl (.cons (t := 8) rfl (.cons (t := 11) rfl (.cons (t := 12) rfl (.nil)))))))) ?_
   refine sx_seq fun K19 k19 => sx_region ?_
   refine sa rfl rfl rfl rfl ?_
   refine wl_nil (q_n (k19 _ _ ?_))
   refine sx_seq fun K20 k20 => ?_
   refine sx_seq fun K21 k21 => sx_region ?_
   refine sm rfl rfl rfl rfl ?_
   refine sx_pure rfl rfl rfl (px_lt rfl rfl) ?_
   refine wl_nil (q_n (k21 _ _ ?_))
   refine sx_condP rfl (fun h113 => ?_) (fun h113 => ?_)
   ·
    refine sx_seq fun K22 k22 => sx_region ?_
    refine sm rfl rfl rfl rfl ?_
    refine sx_pure rfl rfl rfl (px_add rfl rfl (by omega)) ?_
    refine sa rfl rfl rfl rfl ?_
    refine wl_nil (q_n (k22 _ _ ?_))
    refine sx_region ?_
    refine sa rfl rfl rfl rfl ?_
    refine wl_nil (q_n (k20 _ _ ?_))
    refine sx_region ?_
    refine sm rfl rfl rfl rfl ?_
    refine sm rfl rfl rfl rfl ?_
    refine sx_lit1 rfl xelt22 rfl rfl (fun s23 ws23 ss23 fs23 cs23 => ?_)
    have ns23 := Own.norm (f := (Value.int .i64)) (zs := [((((dg m).getD k 0) - ((c : Nat) : Int)) - ((dg n).getD k 0)) + 1000000000]) fs23
    have zws23 := cs23.size
    have f25 := hs_s.ext cs23
    refine sx_append rfl xelt22 rfl rfl f25 ns23.sv one_int (by omega) (by simp only [List.length_cons, List.length_nil]; omega) (by unfold maxLen; simp only [List.length_cons, List.length_nil]; omega) (fun a24 w24 fw24 cw24 => ?_)
    have nw24 := Own.app (f := (Value.int .i64)) (a := os) (b := [((((dg m).getD k 0) - ((c : Nat) : Int)) - ((dg n).getD k 0)) + 1000000000]) fw24
    have zw24 := cw24.size
    refine sa rfl rfl rfl rfl ?_
    refine wl_nil ?_
    refine q_bn (q_n (k11 _ _ ?_))
    refine sx_sub (Sub.cons (t := 0) rfl (.cons (t := 1) rfl (.cons (t := 5) rfl (.cons (t := 6) rfl (.cons (t := 11) rfl (.cons (t := 12) rfl (.nil))))))) ?_
    refine sx_region ?_
    refine sx_pure rfl rfl rfl (px_add rfl rfl (by omega)) ?_
    refine sm rfl rfl rfl rfl ?_
    refine wl_nil ?_
    have q26 := Chg.step (l := w.heap.size) (h := ws3.heap.size) cwl8 cs23 (by omega)
    have q27 := Chg.step (l := w.heap.size) (h := ws3.heap.size) q26 cw24 (by omega)
    have hs : ((dg m).getD k 0).toNat + Bs * 1 = ((dg n).getD k 0).toNat + c + ((((((dg m).getD k 0) - ((c : Nat) : Int)) - ((dg n).getD k 0)) + 1000000000) : Int).toNat := by simp only [Bs]; omega
    have hv2 : vl ((dg m).take (k + 1)) + Bs ^ (k + 1) * 1 = vl (os ++ [(((((dg m).getD k 0) - ((c : Nat) : Int)) - ((dg n).getD k 0)) + 1000000000)]) + vl ((dg n).take (k + 1)) := by
     rw [vl_concat, hos, vl_take_succ', vl_take_succ', Nat.pow_succ]
     exact sub_step hs hv
    exact fun a ha => ⟨_, by omega, (k + 1), a24, (os ++ ([((((dg m).getD k 0) - ((c : Nat) : Int)) - ((dg n).getD k 0)) + 1000000000])), 1, ha.sub (Sub.cons (t := 0) rfl (.cons (t := 1) rfl (.cons (t := 5) rfl (.cons (t := 6) (look_int (t := 6) rfl (by first | omega | simp)) (.cons (t := 11) rfl (.cons (t := 12) (look_int (t := 12) rfl (by first | omega | simp)) (.nil))))))), q27, (nw24.mono (by omega) (by omega)), rfl, by simp [hos], hlm.append (Lm.single (by omega) (by omega)), by omega, by omega, hv2⟩
   ·
    refine sx_skip ?_
    refine q_n (k20 _ _ ?_)
    refine sx_region ?_
    refine sm rfl rfl rfl rfl ?_
    refine sm rfl rfl rfl rfl ?_
    refine sx_lit1 rfl xelt22 rfl rfl (fun s28 ws28 ss28 fs28 cs28 => ?_)
    have ns28 := Own.norm (f := (Value.int .i64)) (zs := [(((dg m).getD k 0) - ((c : Nat) : Int)) - ((dg n).getD k 0)]) fs28
    have zws28 := cs28.size
    have f30 := hs_s.ext cs28
    refine sx_append rfl xelt22 rfl rfl f30 ns28.sv one_int (by omega) (by simp only [List.length_cons, List.length_nil]; omega) (by unfold maxLen; simp only [List.length_cons, List.length_nil]; omega) (fun a29 w29 fw29 cw29 => ?_)
    have nw29 := Own.app (f := (Value.int .i64)) (a := os) (b := [(((dg m).getD k 0) - ((c : Nat) : Int)) - ((dg n).getD k 0)]) fw29
    have zw29 := cw29.size
    refine sa rfl rfl rfl rfl ?_
    refine wl_nil ?_
    refine q_bn (q_n (k11 _ _ ?_))
    refine sx_region ?_
    refine sx_pure rfl rfl rfl (px_add rfl rfl (by omega)) ?_
    refine sm rfl rfl rfl rfl ?_
    refine wl_nil ?_
    have q31 := Chg.step (l := w.heap.size) (h := ws3.heap.size) cwl8 cs28 (by omega)
    have q32 := Chg.step (l := w.heap.size) (h := ws3.heap.size) q31 cw29 (by omega)
    have hs : ((dg m).getD k 0).toNat + Bs * 0 = ((dg n).getD k 0).toNat + c + (((((dg m).getD k 0) - ((c : Nat) : Int)) - ((dg n).getD k 0)) : Int).toNat := by simp only [Bs]; omega
    have hv2 : vl ((dg m).take (k + 1)) + Bs ^ (k + 1) * 0 = vl (os ++ [((((dg m).getD k 0) - ((c : Nat) : Int)) - ((dg n).getD k 0))]) + vl ((dg n).take (k + 1)) := by
     rw [vl_concat, hos, vl_take_succ', vl_take_succ', Nat.pow_succ]
     exact sub_step hs hv
    exact fun a ha => ⟨_, by omega, (k + 1), a29, (os ++ ([(((dg m).getD k 0) - ((c : Nat) : Int)) - ((dg n).getD k 0)])), 0, ha.sub (Sub.cons (t := 0) rfl (.cons (t := 1) rfl (.cons (t := 5) rfl (.cons (t := 6) (look_int (t := 6) rfl (by first | omega | simp)) (.cons (t := 11) rfl (.cons (t := 12) (look_int (t := 12) rfl (by first | omega | simp)) (.nil))))))), q32, (nw29.mono (by omega) (by omega)), rfl, by simp [hos], hlm.append (Lm.single (by omega) (by omega)), by omega, by omega, hv2⟩
  ·
   have gn := getD_ge (zs := dg n) (k := k) (by omega)
   refine sx_skip ?_
   refine q_n (k15 _ _ ?_)
   refine sx_seq fun K33 k33 => sx_region ?_
   refine sa rfl rfl rfl rfl ?_
   refine wl_nil (q_n (k33 _ _ ?_))
   refine sx_seq fun K34 k34 => ?_
   refine sx_seq fun K35 k35 => sx_region ?_
   refine sm rfl rfl rfl rfl ?_
   refine sx_pure rfl rfl rfl (px_lt rfl rfl) ?_
   refine wl_nil (q_n (k35 _ _ ?_))
   refine sx_condP rfl (fun h113 => ?_) (fun h113 => ?_)
   ·
    refine sx_seq fun K36 k36 => sx_region ?_
    refine sm rfl rfl rfl rfl ?_
    refine sx_pure rfl rfl rfl (px_add rfl rfl (by omega)) ?_
    refine sa rfl rfl rfl rfl ?_
    refine wl_nil (q_n (k36 _ _ ?_))
    refine sx_sub (Sub.cons (t := 0) rfl (.cons (t := 1) rfl (.cons (t := 5) rfl (.cons (t := 6) rfl (.cons (t := 8) rfl (.cons (t := 11) rfl (.cons (t := 12) rfl (.nil)))))))) ?_
    refine sx_region ?_
    refine sa rfl rfl rfl rfl ?_
    refine wl_nil (q_n (k34 _ _ ?_))
    refine sx_region ?_
    refine sm rfl rfl rfl rfl ?_
    refine sm rfl rfl rfl rfl ?_
    refine sx_lit1 rfl xelt22 rfl rfl (fun s37 ws37 ss37 fs37 cs37 => ?_)
    have ns37 := Own.norm (f := (Value.int .i64)) (zs := [(((dg m).getD k 0) - ((c : Nat) : Int)) + 1000000000]) fs37
    have zws37 := cs37.size
    have f39 := hs_s.ext cs37
    refine sx_append rfl xelt22 rfl rfl f39 ns37.sv one_int (by omega) (by simp only [List.length_cons, List.length_nil]; omega) (by unfold maxLen; simp only [List.length_cons, List.length_nil]; omega) (fun a38 w38 fw38 cw38 => ?_)
    have nw38 := Own.app (f := (Value.int .i64)) (a := os) (b := [(((dg m).getD k 0) - ((c : Nat) : Int)) + 1000000000]) fw38
    have zw38 := cw38.size
    refine sa rfl rfl rfl rfl ?_
    refine wl_nil ?_
    refine q_bn (q_n (k11 _ _ ?_))
    refine sx_region ?_
    refine sx_pure rfl rfl rfl (px_add rfl rfl (by omega)) ?_
    refine sm rfl rfl rfl rfl ?_
    refine wl_nil ?_
    have q40 := Chg.step (l := w.heap.size) (h := ws3.heap.size) cwl8 cs37 (by omega)
    have q41 := Chg.step (l := w.heap.size) (h := ws3.heap.size) q40 cw38 (by omega)
    have hs : ((dg m).getD k 0).toNat + Bs * 1 = ((dg n).getD k 0).toNat + c + (((((dg m).getD k 0) - ((c : Nat) : Int)) + 1000000000) : Int).toNat := by simp only [Bs]; omega
    have hv2 : vl ((dg m).take (k + 1)) + Bs ^ (k + 1) * 1 = vl (os ++ [((((dg m).getD k 0) - ((c : Nat) : Int)) + 1000000000)]) + vl ((dg n).take (k + 1)) := by
     rw [vl_concat, hos, vl_take_succ', vl_take_succ', Nat.pow_succ]
     exact sub_step hs hv
    exact fun a ha => ⟨_, by omega, (k + 1), a38, (os ++ ([(((dg m).getD k 0) - ((c : Nat) : Int)) + 1000000000])), 1, ha.sub (Sub.cons (t := 0) rfl (.cons (t := 1) rfl (.cons (t := 5) rfl (.cons (t := 6) (look_int (t := 6) rfl (by first | omega | simp)) (.cons (t := 11) rfl (.cons (t := 12) (look_int (t := 12) rfl (by first | omega | simp)) (.nil))))))), q41, (nw38.mono (by omega) (by omega)), rfl, by simp [hos], hlm.append (Lm.single (by omega) (by omega)), by omega, by omega, hv2⟩
   ·
    refine sx_skip ?_
    refine q_n (k34 _ _ ?_)
    refine sx_region ?_
    refine sm rfl rfl rfl rfl ?_
    refine sm rfl rfl rfl rfl ?_
    refine sx_lit1 rfl xelt22 rfl rfl (fun s42 ws42 ss42 fs42 cs42 => ?_)
    have ns42 := Own.norm (f := (Value.int .i64)) (zs := [((dg m).getD k 0) - ((c : Nat) : Int)]) fs42
    have zws42 := cs42.size
    have f44 := hs_s.ext cs42
    refine sx_append rfl xelt22 rfl rfl f44 ns42.sv one_int (by omega) (by simp only [List.length_cons, List.length_nil]; omega) (by unfold maxLen; simp only [List.length_cons, List.length_nil]; omega) (fun a43 w43 fw43 cw43 => ?_)
    have nw43 := Own.app (f := (Value.int .i64)) (a := os) (b := [((dg m).getD k 0) - ((c : Nat) : Int)]) fw43
    have zw43 := cw43.size
    refine sa rfl rfl rfl rfl ?_
    refine wl_nil ?_
    refine q_bn (q_n (k11 _ _ ?_))
    refine sx_sub (Sub.cons (t := 0) rfl (.cons (t := 1) rfl (.cons (t := 5) rfl (.cons (t := 6) rfl (.cons (t := 11) rfl (.cons (t := 12) rfl (.nil))))))) ?_
    refine sx_region ?_
    refine sx_pure rfl rfl rfl (px_add rfl rfl (by omega)) ?_
    refine sm rfl rfl rfl rfl ?_
    refine wl_nil ?_
    have q45 := Chg.step (l := w.heap.size) (h := ws3.heap.size) cwl8 cs42 (by omega)
    have q46 := Chg.step (l := w.heap.size) (h := ws3.heap.size) q45 cw43 (by omega)
    have hs : ((dg m).getD k 0).toNat + Bs * 0 = ((dg n).getD k 0).toNat + c + ((((dg m).getD k 0) - ((c : Nat) : Int)) : Int).toNat := by simp only [Bs]; omega
    have hv2 : vl ((dg m).take (k + 1)) + Bs ^ (k + 1) * 0 = vl (os ++ [(((dg m).getD k 0) - ((c : Nat) : Int))]) + vl ((dg n).take (k + 1)) := by
     rw [vl_concat, hos, vl_take_succ', vl_take_succ', Nat.pow_succ]
     exact sub_step hs hv
    exact fun a ha => ⟨_, by omega, (k + 1), a43, (os ++ ([((dg m).getD k 0) - ((c : Nat) : Int)])), 0, ha.sub (Sub.cons (t := 0) rfl (.cons (t := 1) rfl (.cons (t := 5) rfl (.cons (t := 6) (look_int (t := 6) rfl (by first | omega | simp)) (.cons (t := 11) rfl (.cons (t := 12) (look_int (t := 12) rfl (by first | omega | simp)) (.nil))))))), q46, (nw43.mono (by omega) (by omega)), rfl, by simp [hos], hlm.append (Lm.single (by omega) (by omega)), by omega, by omega, hv2⟩
 ·
  refine sx_exit ?_
  refine q_e (q_e (q_bx (q_n (k5 _ _ ?_))))
  refine sx_seq fun K47 k47 => ?_
  have ek : k = (dg m).length := by omega
  have hnm := len_le hle
  rw [ek, List.take_length, vl_dg, vl_take_ge (show (dg n).length ≤ (dg m).length from hnm), vl_dg] at hv
  have hend := sub_end hv hle (by have h9 := vl_lt hlm; rw [hos, ek] at h9; exact h9) hc
  have hvv := hend.2
  have hz := hlm
  refine sx_region ?_
  refine sm rfl rfl rfl rfl ?_
  refine sx_call rfl rfl Tryd.call125 (c_l02Trim hs_s (by assumption) (by first | omega | (simp only [List.length_append, List.length_set, List.length_replicate, List.length_cons, List.length_nil] at *; omega))) (fun v48 w48 p48 => ?_)
  obtain ⟨s48, rfl, os_48, c48⟩ := p48
  have zw48 := c48.size
  refine sa rfl rfl rfl rfl ?_
  refine wl_nil (q_n (k47 _ _ ?_))
  refine sx_retc ?_
  refine sx_ret1 Tryd.results128 rfl ?_
  have hr := Own.sv os_48
  rw [hvv] at hr
  have q49 := Chg.step (l := 0) (h := 0) (Chg.zero (l := 0) (h := 0) cs3) cwl8 (by omega)
  have q50 := Chg.step (l := 0) (h := 0) q49 c48 (by omega)
  exact ⟨_, rfl, hr.mono (by omega) (by omega), q50⟩

theorem c_l04Add {w : World} {va : Value} {lva uva : Nat} {x : Int} {vb : Value} {lvb uvb : Nat} {y : Int} (hva : Sl w lva uva va (dg x.natAbs)) (hvb : Sl w lvb uvb vb (dg y.natAbs)) (hbx : (dg x.natAbs).length ≤ 1000) (hby : (dg y.natAbs).length ≤ 1000) :
  Ret Tryd.prog 118 [.agg #[.bool (ng x), va], .agg #[.bool (ng y), vb]] w fun v w' => ∃ s, v = .agg #[.bool (ng (cap (x + y))), s] ∧ OwnI w' w.heap.size w'.heap.size s intT (dg (cap (x + y)).natAbs) ∧ Chg 0 0 w w' := by
 have hva0 := hva.fit
 have hvb0 := hvb.fit
 have l2 := len_add x.natAbs y.natAbs
 have l3 := len_le (Nat.sub_le x.natAbs y.natAbs)
 have l4 := len_le (Nat.sub_le y.natAbs x.natAbs)
 refine sx_enter Tryd.func118 rfl Tryd.ntmps118 (Nat.le_of_ble_eq_true rfl) ?_
 refine sx_seq fun K1 k1 => sx_region ?_
 refine sx_box [.bool (ng x), va] rfl rfl rfl (fun b2 w3 eb2 sb2 fb2 cb2 => ?_)
 have zw3 := cb2.size
 refine sx_box [.bool (ng y), vb] rfl rfl rfl (fun b4 w5 eb4 sb4 fb4 cb4 => ?_)
 have zw5 := cb4.size
 refine sx_alloc [.bool false, (.slice none 0 0)] rfl Tryd.zeroValue29 rfl (fun b6 w7 eb6 sb6 fb6 cb6 => ?_)
 have zw7 := cb6.size
 refine wl_nil (q_n (k1 _ _ ?_))
 refine sx_seq fun K8 k8 => ?_
 refine sx_seq fun K9 k9 => sx_region ?_
 refine sx_pure rfl rfl rfl (px_field rfl xfld29x0) ?_
 have f10 := fb2.ext cb4
 have f11 := f10.ext cb6
 refine sx_pure rfl rfl rfl (px_load rfl (f11.load1 rfl Tryd.isAgg4)) ?_
 refine sx_pure rfl rfl rfl (px_field rfl xfld29x0) ?_
 have f12 := fb4.ext cb6
 refine sx_pure rfl rfl rfl (px_load rfl (f12.load1 rfl Tryd.isAgg4)) ?_
 refine sx_pure rfl rfl rfl (px_eqB Tryd.underlying4 rfl rfl) ?_
 refine wl_nil (q_n (k9 _ _ ?_))
 refine sx_condB rfl (fun h53 => ?_) (fun h53 => ?_)
 ·
  refine sx_seq fun K13 k13 => ?_
  have f14 := hva0.ext cb2
  have f15 := f14.ext cb4
  have f16 := f15.ext cb6
  have f17 := hvb0.ext cb2
  have f18 := f17.ext cb4
  have f19 := f18.ext cb6
  refine dx_region (fun w' => Chg b6 (b6 + 1) w7 w') (by kernel_rfl) (Chg.zero (Chg.drew _)) ?_
  have d20 := Chg.drew w7
  have s20 : Chg b6 (b6 + 1) w7 (World.drew w7) := Chg.zero (Chg.drew _)
  have y20 : (World.drew w7).heap.size = w7.heap.size := rfl
  generalize World.drew w7 = w20 at *
  have zw20 := d20.size
  refine dx_take 0 rfl rfl rfl rfl (by kernel_rfl) (by kernel_rfl) (by kernel_rfl) s20 (fun _ hS => px_field rfl xfld29x0) ?_
  refine dx_take 1 rfl rfl rfl rfl (by kernel_rfl) (by kernel_rfl) (by kernel_rfl) s20 (fun _ hS => px_load rfl ((f11.chg hS (by omega)).load1 rfl Tryd.isAgg4)) ?_
  refine dx_take 2 rfl rfl rfl rfl (by kernel_rfl) (by kernel_rfl) (by kernel_rfl) s20 (fun _ hS => px_field rfl xfld29x1) ?_
  refine dx_take 3 rfl rfl rfl rfl (by kernel_rfl) (by kernel_rfl) (by kernel_rfl) s20 (fun _ hS => px_load rfl ((f11.chg hS (by omega)).load1 rfl Tryd.isAgg22)) ?_
  refine dx_take 4 rfl rfl rfl rfl (by kernel_rfl) (by kernel_rfl) (by kernel_rfl) s20 (fun _ hS => px_field rfl xfld29x1) ?_
  refine dx_take 5 rfl rfl rfl rfl (by kernel_rfl) (by kernel_rfl) (by kernel_rfl) s20 (fun _ hS => px_load rfl ((f12.chg hS (by omega)).load1 rfl Tryd.isAgg22)) ?_
  refine dx_eff 6 rfl (by kernel_rfl) ?_
  have f21 := f16.ext d20
  have f22 := f19.ext d20
  refine sx_call rfl rfl Tryd.call127 (c_l02Add f21 f22 (by omega) (by omega)) (fun v23 w23 p23 => ?_)
  obtain ⟨s23, rfl, os_23, c23⟩ := p23
  have zw23 := c23.size
  have s24 : Chg b6 (b6 + 1) w7 w23 := (Chg.zero (l := b6) (h := (b6 + 1)) (d20.t c23))
  refine wl_nil ?_
  refine dx_next s24 ?_
  refine dx_eff 7 rfl (by kernel_rfl) ?_
  refine sx_call rfl rfl Tryd.call108 (c_l04Make os_23 (by omega)) (fun v25 w25 p25 => ?_)
  obtain ⟨s25, rfl, os_25, c25⟩ := p25
  have zw25 := c25.size
  have s26 : Chg b6 (b6 + 1) w7 w25 := (Chg.zero (l := b6) (h := (b6 + 1)) ((d20.t c23).t c25))
  refine wl_nil ?_
  refine dx_next s26 ?_
  refine dx_eff 8 rfl (by kernel_rfl) ?_
  have f28 := fb6.ext d20
  have f29 := f28.ext c23
  have f30 := f29.ext c25
  refine sx_store (vs := [.bool (ng (capI (ng x) (x.natAbs + y.natAbs))), s25]) rfl rfl f30 rfl Tryd.sizeOf29 (Nat.le_of_ble_eq_true rfl) (one_cons rfl (one_cons os_25.one one_nil)) (fun w27 sw27 fw27 cw27 => ?_)
  have zw27 := cw27.size
  have gw27 : Blk w27 b6 [.bool (ng (capI (ng x) (x.natAbs + y.natAbs))), s25] 29 := fw27
  have q32 := Chg.step (l := b6) (h := (b6 + 1)) (Chg.zero (l := b6) (h := (b6 + 1)) ((d20.t c23).t c25)) cw27 (by omega)
  have s31 : Chg b6 (b6 + 1) w7 w27 := q32
  refine wl_nil ?_
  refine dx_next s31 ?_
  refine dx_done (by kernel_rfl) ?_
  refine q_n (k13 _ _ ?_)
  refine sx_sub (Sub.cons (t := 2) rfl (.cons (t := 3) rfl (.cons (t := 4) rfl (.nil)))) ?_
  refine sx_retc ?_
  refine q_r (sx_ret1 Tryd.results118 ⟨_, rfl, gw27.loadA (vs := [.bool (ng (capI (ng x) (x.natAbs + y.natAbs))), s25]) (look_lit rfl) Tryd.isAgg29 Tryd.sizeOf29⟩ ?_)
  have hq := capI_of (add_sg h53)
  rw [← hq]
  have q33 := Chg.step (l := 0) (h := 0) (Chg.zero (l := 0) (h := 0) (((((cb2.t cb4).t cb6).t d20).t c23).t c25)) cw27 (by omega)
  have f34 := os_25.chg cw27 (by omega)
  exact ⟨_, rfl, (Own.mono f34 (by omega) (by omega)), q33⟩
 ·
  refine sx_skip ?_
  refine q_n (k8 _ _ ?_)
  refine sx_seq fun K35 k35 => ?_
  refine sx_seq fun K36 k36 => sx_region ?_
  refine sx_pure rfl rfl rfl (px_field rfl xfld29x1) ?_
  refine sx_pure rfl rfl rfl (px_load rfl (f11.load1 rfl Tryd.isAgg22)) ?_
  refine sx_pure rfl rfl rfl (px_field rfl xfld29x1) ?_
  refine sx_pure rfl rfl rfl (px_load rfl (f12.load1 rfl Tryd.isAgg22)) ?_
  have f37 := hva0.ext cb2
  have f38 := f37.ext cb4
  have f39 := f38.ext cb6
  have f40 := hvb0.ext cb2
  have f41 := f40.ext cb4
  have f42 := f41.ext cb6
  refine sx_call rfl rfl Tryd.call115 (c_l02Cmp f39 f42 (by omega)) (fun v43 w43 p43 => ?_)
  obtain ⟨rfl, c43⟩ := p43
  have zw43 := c43.size
  refine sx_pure rfl rfl rfl (px_ge rfl rfl) ?_
  refine wl_nil (q_n (k36 _ _ ?_))
  refine sx_sub (Sub.cons (t := 2) rfl (.cons (t := 3) rfl (.cons (t := 4) rfl (.cons (t := 23) rfl (.nil))))) ?_
  refine sx_condP rfl (fun h56 => ?_) (fun h56 => ?_)
  ·
   rw [cmpL_dg] at h56
   have hge := cmpN_nonneg.1 h56
   refine sx_seq fun K44 k44 => ?_
   have f45 := f11.ext c43
   have f46 := f12.ext c43
   have f47 := f39.ext c43
   have f48 := f42.ext c43
   refine dx_region (fun w' => Chg b6 (b6 + 1) w43 w') (by kernel_rfl) (Chg.zero (Chg.drew _)) ?_
   have d49 := Chg.drew w43
   have s49 : Chg b6 (b6 + 1) w43 (World.drew w43) := Chg.zero (Chg.drew _)
   have y49 : (World.drew w43).heap.size = w43.heap.size := rfl
   generalize World.drew w43 = w49 at *
   have zw49 := d49.size
   refine dx_take 0 rfl rfl rfl rfl (by kernel_rfl) (by kernel_rfl) (by kernel_rfl) s49 (fun _ hS => px_field rfl xfld29x0) ?_
   refine dx_take 1 rfl rfl rfl rfl (by kernel_rfl) (by kernel_rfl) (by kernel_rfl) s49 (fun _ hS => px_load rfl ((f45.chg hS (by omega)).load1 rfl Tryd.isAgg4)) ?_
   refine dx_take 2 rfl rfl rfl rfl (by kernel_rfl) (by kernel_rfl) (by kernel_rfl) s49 (fun _ hS => px_field rfl xfld29x1) ?_
   refine dx_take 3 rfl rfl rfl rfl (by kernel_rfl) (by kernel_rfl) (by kernel_rfl) s49 (fun _ hS => px_load rfl ((f45.chg hS (by omega)).load1 rfl Tryd.isAgg22)) ?_
   refine dx_take 4 rfl rfl rfl rfl (by kernel_rfl) (by kernel_rfl) (by kernel_rfl) s49 (fun _ hS => px_field rfl xfld29x1) ?_
   refine dx_take 5 rfl rfl rfl rfl (by kernel_rfl) (by kernel_rfl) (by kernel_rfl) s49 (fun _ hS => px_load rfl ((f46.chg hS (by omega)).load1 rfl Tryd.isAgg22)) ?_
   refine dx_eff 6 rfl (by kernel_rfl) ?_
   have f50 := f47.ext d49
   have f51 := f48.ext d49
   refine sx_call rfl rfl Tryd.call128 (c_l02Sub f50 f51 (by omega) (by omega) (by omega)) (fun v52 w52 p52 => ?_)
   obtain ⟨s52, rfl, os_52, c52⟩ := p52
   have zw52 := c52.size
   have s53 : Chg b6 (b6 + 1) w43 w52 := (Chg.zero (l := b6) (h := (b6 + 1)) (d49.t c52))
   refine wl_nil ?_
   refine dx_next s53 ?_
   refine dx_eff 7 rfl (by kernel_rfl) ?_
   refine sx_call rfl rfl Tryd.call108 (c_l04Make os_52 (by omega)) (fun v54 w54 p54 => ?_)
   obtain ⟨s54, rfl, os_54, c54⟩ := p54
   have zw54 := c54.size
   have s55 : Chg b6 (b6 + 1) w43 w54 := (Chg.zero (l := b6) (h := (b6 + 1)) ((d49.t c52).t c54))
   refine wl_nil ?_
   refine dx_next s55 ?_
   refine dx_eff 8 rfl (by kernel_rfl) ?_
   have f57 := fb6.ext c43
   have f58 := f57.ext d49
   have f59 := f58.ext c52
   have f60 := f59.ext c54
   refine sx_store (vs := [.bool (ng (capI (ng x) (x.natAbs - y.natAbs))), s54]) rfl rfl f60 rfl Tryd.sizeOf29 (Nat.le_of_ble_eq_true rfl) (one_cons rfl (one_cons os_54.one one_nil)) (fun w56 sw56 fw56 cw56 => ?_)
   have zw56 := cw56.size
   have gw56 : Blk w56 b6 [.bool (ng (capI (ng x) (x.natAbs - y.natAbs))), s54] 29 := fw56
   have q62 := Chg.step (l := b6) (h := (b6 + 1)) (Chg.zero (l := b6) (h := (b6 + 1)) ((d49.t c52).t c54)) cw56 (by omega)
   have s61 : Chg b6 (b6 + 1) w43 w56 := q62
   refine wl_nil ?_
   refine dx_next s61 ?_
   refine dx_done (by kernel_rfl) ?_
   refine q_n (k44 _ _ ?_)
   refine sx_retc ?_
   refine q_r (sx_ret1 Tryd.results118 ⟨_, rfl, gw56.loadA (vs := [.bool (ng (capI (ng x) (x.natAbs - y.natAbs))), s54]) (look_lit rfl) Tryd.isAgg29 Tryd.sizeOf29⟩ ?_)
   have hq := capI_of (sub_sg h53 hge)
   rw [← hq]
   have q63 := Chg.step (l := 0) (h := 0) (Chg.zero (l := 0) (h := 0) ((((((cb2.t cb4).t cb6).t c43).t d49).t c52).t c54)) cw56 (by omega)
   have f64 := os_54.chg cw56 (by omega)
   exact ⟨_, rfl, (Own.mono f64 (by omega) (by omega)), q63⟩
  ·
   rw [cmpL_dg] at h56
   have hlt := cmpN_neg.1 (Int.not_le.1 h56)
   refine sx_skip ?_
   refine q_n (k35 _ _ ?_)
   refine sx_seq fun K65 k65 => ?_
   have f66 := f11.ext c43
   have f67 := f12.ext c43
   have f68 := f39.ext c43
   have f69 := f42.ext c43
   refine dx_region (fun w' => Chg b6 (b6 + 1) w43 w') (by kernel_rfl) (Chg.zero (Chg.drew _)) ?_
   have d70 := Chg.drew w43
   have s70 : Chg b6 (b6 + 1) w43 (World.drew w43) := Chg.zero (Chg.drew _)
   have y70 : (World.drew w43).heap.size = w43.heap.size := rfl
   generalize World.drew w43 = w70 at *
   have zw70 := d70.size
   refine dx_take 0 rfl rfl rfl rfl (by kernel_rfl) (by kernel_rfl) (by kernel_rfl) s70 (fun _ hS => px_field rfl xfld29x0) ?_
   refine dx_take 1 rfl rfl rfl rfl (by kernel_rfl) (by kernel_rfl) (by kernel_rfl) s70 (fun _ hS => px_load rfl ((f67.chg hS (by omega)).load1 rfl Tryd.isAgg4)) ?_
   refine dx_take 2 rfl rfl rfl rfl (by kernel_rfl) (by kernel_rfl) (by kernel_rfl) s70 (fun _ hS => px_field rfl xfld29x1) ?_
   refine dx_take 3 rfl rfl rfl rfl (by kernel_rfl) (by kernel_rfl) (by kernel_rfl) s70 (fun _ hS => px_load rfl ((f67.chg hS (by omega)).load1 rfl Tryd.isAgg22)) ?_
   refine dx_take 4 rfl rfl rfl rfl (by kernel_rfl) (by kernel_rfl) (by kernel_rfl) s70 (fun _ hS => px_field rfl xfld29x1) ?_
   refine dx_take 5 rfl rfl rfl rfl (by kernel_rfl) (by kernel_rfl) (by kernel_rfl) s70 (fun _ hS => px_load rfl ((f66.chg hS (by omega)).load1 rfl Tryd.isAgg22)) ?_
   refine dx_eff 6 rfl (by kernel_rfl) ?_
   have f71 := f69.ext d70
   have f72 := f68.ext d70
   refine sx_call rfl rfl Tryd.call128 (c_l02Sub f71 f72 (by omega) (by omega) (by omega)) (fun v73 w73 p73 => ?_)
   obtain ⟨s73, rfl, os_73, c73⟩ := p73
   have zw73 := c73.size
   have s74 : Chg b6 (b6 + 1) w43 w73 := (Chg.zero (l := b6) (h := (b6 + 1)) (d70.t c73))
   refine wl_nil ?_
   refine dx_next s74 ?_
   refine dx_eff 7 rfl (by kernel_rfl) ?_
   refine sx_call rfl rfl Tryd.call108 (c_l04Make os_73 (by omega)) (fun v75 w75 p75 => ?_)
   obtain ⟨s75, rfl, os_75, c75⟩ := p75
   have zw75 := c75.size
   have s76 : Chg b6 (b6 + 1) w43 w75 := (Chg.zero (l := b6) (h := (b6 + 1)) ((d70.t c73).t c75))
   refine wl_nil ?_
   refine dx_next s76 ?_
   refine dx_eff 8 rfl (by kernel_rfl) ?_
   have f78 := fb6.ext c43
   have f79 := f78.ext d70
   have f80 := f79.ext c73
   have f81 := f80.ext c75
   refine sx_store (vs := [.bool (ng (capI (ng y) (y.natAbs - x.natAbs))), s75]) rfl rfl f81 rfl Tryd.sizeOf29 (Nat.le_of_ble_eq_true rfl) (one_cons rfl (one_cons os_75.one one_nil)) (fun w77 sw77 fw77 cw77 => ?_)
   have zw77 := cw77.size
   have gw77 : Blk w77 b6 [.bool (ng (capI (ng y) (y.natAbs - x.natAbs))), s75] 29 := fw77
   have q83 := Chg.step (l := b6) (h := (b6 + 1)) (Chg.zero (l := b6) (h := (b6 + 1)) ((d70.t c73).t c75)) cw77 (by omega)
   have s82 : Chg b6 (b6 + 1) w43 w77 := q83
   refine wl_nil ?_
   refine dx_next s82 ?_
   refine dx_done (by kernel_rfl) ?_
   refine q_n (k65 _ _ ?_)
   refine sx_retc ?_
   refine sx_ret1 Tryd.results118 ⟨_, rfl, gw77.loadA (vs := [.bool (ng (capI (ng y) (y.natAbs - x.natAbs))), s75]) (look_lit rfl) Tryd.isAgg29 Tryd.sizeOf29⟩ ?_
   have hq := capI_of (sub_sg2 h53 (by omega))
   rw [← hq]
   have q84 := Chg.step (l := 0) (h := 0) (Chg.zero (l := 0) (h := 0) ((((((cb2.t cb4).t cb6).t c43).t d70).t c73).t c75)) cw77 (by omega)
   have f85 := os_75.chg cw77 (by omega)
   exact ⟨_, rfl, (Own.mono f85 (by omega) (by omega)), q84⟩

theorem c_IntAdd {w : World} {va : Value} {lva uva : Nat} {x : Int} {vb : Value} {lvb uvb : Nat} {y : Int} (hva : Sl w lva uva va (dg x.natAbs)) (hvb : Sl w lvb uvb vb (dg y.natAbs)) (hbx : (dg x.natAbs).length ≤ 50) (hby : (dg y.natAbs).length ≤ 50) :
  Ret Tryd.prog 96 [.agg #[.bool (ng x), va], .agg #[.bool (ng y), vb]] w fun v w' => ∃ s, v = .agg #[.bool (ng (cap (x + y))), s] ∧ OwnI w' w.heap.size w'.heap.size s intT (dg (cap (x + y)).natAbs) ∧ Chg 0 0 w w' := by
 have hva0 := hva.fit
 have hvb0 := hvb.fit
 refine sx_enter Tryd.func96 rfl Tryd.ntmps96 (Nat.le_of_ble_eq_true rfl) ?_
 refine sx_seq fun K1 k1 => sx_region ?_
 refine sx_box [.bool (ng x), va] rfl rfl rfl (fun b2 w3 eb2 sb2 fb2 cb2 => ?_)
 have zw3 := cb2.size
 refine sx_box [.bool (ng y), vb] rfl rfl rfl (fun b4 w5 eb4 sb4 fb4 cb4 => ?_)
 have zw5 := cb4.size
 refine sx_alloc [.bool false, (.slice none 0 0)] rfl Tryd.zeroValue29 rfl (fun b6 w7 eb6 sb6 fb6 cb6 => ?_)
 have zw7 := cb6.size
 refine wl_nil (q_n (k1 _ _ ?_))
 refine sx_seq fun K8 k8 => ?_
 refine sx_seq fun K9 k9 => sx_region ?_
 have f10 := fb2.ext cb4
 have f11 := f10.ext cb6
 refine sx_pure rfl rfl rfl (px_load rfl (f11.loadA (vs := [.bool (ng x), va]) (look_lit rfl) Tryd.isAgg29 Tryd.sizeOf29)) ?_
 have f12 := hva0.ext cb2
 have f13 := f12.ext cb4
 have f14 := f13.ext cb6
 refine sx_call rfl rfl Tryd.call59 (c_sIntOk f14 (by omega)) (fun v15 w15 p15 => ?_)
 obtain ⟨rfl, c15⟩ := p15
 have zw15 := c15.size
 refine sx_pure rfl rfl rfl (px_notP rfl) ?_
 refine sm rfl rfl rfl rfl ?_
 have h64 : ¬ (¬ (IOk (ng x) (dg x.natAbs))) := by first | exact fun h => h (IOk_ng (by omega)) | exact fun h => h (IOk_ng (by assumption))
 refine sx_tmpPF (t := 8) rfl h64 ?_
 refine sx_guardT rfl rfl rfl ?_
 have f16 := fb4.ext cb6
 have f17 := f16.ext c15
 refine sx_pure rfl rfl rfl (px_load rfl (f17.loadA (vs := [.bool (ng y), vb]) (look_lit rfl) Tryd.isAgg29 Tryd.sizeOf29)) ?_
 refine sx_guardT rfl rfl rfl ?_
 have f18 := hvb0.ext cb2
 have f19 := f18.ext cb4
 have f20 := f19.ext cb6
 have f21 := f20.ext c15
 refine sx_call rfl rfl Tryd.call59 (c_sIntOk f21 (by omega)) (fun v22 w22 p22 => ?_)
 obtain ⟨rfl, c22⟩ := p22
 have zw22 := c22.size
 refine sx_guardT rfl rfl rfl ?_
 refine sx_pure rfl rfl rfl (px_notP rfl) ?_
 refine sx_pure rfl rfl rfl (px_pick rfl rfl) ?_
 refine wl_nil (q_n (k9 _ _ ?_))
 have h64x1 : ¬ (¬ (IOk (ng y) (dg y.natAbs))) := by first | exact fun h => h (IOk_ng (by omega)) | exact fun h => h (IOk_ng (by assumption))
 refine sx_condPF rfl h64x1 ?_
 refine sx_skip ?_
 refine q_n (k8 _ _ ?_)
 refine sx_seq fun K23 k23 => sx_region ?_
 have f24 := f11.ext c15
 have f25 := f24.ext c22
 refine sx_pure rfl rfl rfl (px_load rfl (f25.loadA (vs := [.bool (ng x), va]) (look_lit rfl) Tryd.isAgg29 Tryd.sizeOf29)) ?_
 have f26 := f17.ext c22
 refine sx_pure rfl rfl rfl (px_load rfl (f26.loadA (vs := [.bool (ng y), vb]) (look_lit rfl) Tryd.isAgg29 Tryd.sizeOf29)) ?_
 have f27 := f14.ext c15
 have f28 := f27.ext c22
 have f29 := f21.ext c22
 refine sx_call rfl rfl Tryd.call118 (c_l04Add f28 f29 (by omega) (by omega)) (fun v30 w30 p30 => ?_)
 obtain ⟨s30, rfl, os_30, c30⟩ := p30
 have zw30 := c30.size
 have f32 := fb6.ext c15
 have f33 := f32.ext c22
 have f34 := f33.ext c30
 refine sx_store (vs := [.bool (ng (cap (x + y))), s30]) rfl rfl f34 rfl Tryd.sizeOf29 (Nat.le_of_ble_eq_true rfl) (one_cons rfl (one_cons os_30.one one_nil)) (fun w31 sw31 fw31 cw31 => ?_)
 have zw31 := cw31.size
 have gw31 : Blk w31 b6 [.bool (ng (cap (x + y))), s30] 29 := fw31
 refine wl_nil (q_n (k23 _ _ ?_))
 refine sx_sub (Sub.cons (t := 4) rfl (.nil)) ?_
 refine sx_retc ?_
 refine sx_ret1 Tryd.results96 ⟨_, rfl, gw31.loadA (vs := [.bool (ng (cap (x + y))), s30]) (look_lit rfl) Tryd.isAgg29 Tryd.sizeOf29⟩ ?_
 have q35 := Chg.step (l := 0) (h := 0) (Chg.zero (l := 0) (h := 0) (((((cb2.t cb4).t cb6).t c15).t c22).t c30)) cw31 (by omega)
 have f36 := os_30.chg cw31 (by omega)
 exact ⟨_, rfl, (Own.mono f36 (by omega) (by omega)), q35⟩

theorem c_IntAddE {w : World} {va : Value} {lva uva : Nat} {x : Int} {vb : Value} {lvb uvb : Nat} {y : Int} (hva : Sl w lva uva va (dg x.natAbs)) (hvb : Sl w lvb uvb vb (dg y.natAbs)) (hbx : (dg x.natAbs).length ≤ 49) (hby : (dg y.natAbs).length ≤ 49) :
  Ret Tryd.prog 96 [.agg #[.bool (ng x), va], .agg #[.bool (ng y), vb]] w fun v w' => ∃ s, v = .agg #[.bool (ng (x + y)), s] ∧ OwnI w' w.heap.size w'.heap.size s intT (dg (x + y).natAbs) ∧ Chg 0 0 w w' := by
 have h := c_IntAdd hva hvb (by omega) (by omega); rwa [cap_ok (by have := len_addI x y; omega)] at h

theorem c_sMoneyAdd {w : World} {c1 : ByteArray} {n1 : Bool} {v1 : Value} {lv1 uv1 : Nat} {z1 : List Int} {c2 : ByteArray} {n2 : Bool} {v2 : Value} {lv2 uv2 : Nat} {z2 : List Int} (hv1 : Sl w lv1 uv1 v1 (z1)) (hv2 : Sl w lv2 uv2 v2 (z2)) (h63 : z1.length ≤ 4611686018427387904 ∧ z2.length ≤ 4611686018427387904) :
  Ret Tryd.prog 45 [.agg #[.string c1, .bool n1, v1], .agg #[.string c2, .bool n2, v2]] w fun v w' => ∃ s, v = .tuple #[.agg #[.string ((mBin gAdd c1 n1 z1 c2 n2 z2).1), .bool ((mBin gAdd c1 n1 z1 c2 n2 z2).2.1), s], .bool ((mBin gAdd c1 n1 z1 c2 n2 z2).2.2.2)] ∧ OwnI w' w.heap.size w'.heap.size s intT ((mBin gAdd c1 n1 z1 c2 n2 z2).2.2.1) ∧ ((mBin gAdd c1 n1 z1 c2 n2 z2).2.2.1.length ≤ 4) ∧ Chg 0 0 w w' := by
 have hv10 := hv1.fit
 have hv20 := hv2.fit
 refine sx_enter Tryd.func45 rfl Tryd.ntmps45 (Nat.le_of_ble_eq_true rfl) ?_
 refine sx_seq fun K1 k1 => sx_region ?_
 refine sx_box [.string c1, .bool n1, v1] rfl rfl rfl (fun b2 w3 eb2 sb2 fb2 cb2 => ?_)
 have zw3 := cb2.size
 refine sx_box [.string c2, .bool n2, v2] rfl rfl rfl (fun b4 w5 eb4 sb4 fb4 cb4 => ?_)
 have zw5 := cb4.size
 refine sx_alloc [.string (⟨#[]⟩), .bool false, (.slice none 0 0)] rfl Tryd.zeroValue31 rfl (fun b6 w7 eb6 sb6 fb6 cb6 => ?_)
 have zw7 := cb6.size
 refine sa rfl rfl rfl rfl ?_
 refine wl_nil (q_n (k1 _ _ ?_))
 refine sx_seq fun K8 k8 => ?_
 refine sx_seq fun K9 k9 => sx_region ?_
 have f10 := fb2.ext cb4
 have f11 := f10.ext cb6
 refine sx_pure rfl rfl rfl (px_load rfl (f11.loadA (vs := [.string c1, .bool n1, v1]) (look_lit rfl) Tryd.isAgg31 Tryd.sizeOf31)) ?_
 have f12 := fb4.ext cb6
 refine sx_pure rfl rfl rfl (px_load rfl (f12.loadA (vs := [.string c2, .bool n2, v2]) (look_lit rfl) Tryd.isAgg31 Tryd.sizeOf31)) ?_
 have f13 := hv10.ext cb2
 have f14 := f13.ext cb4
 have f15 := f14.ext cb6
 have f16 := hv20.ext cb2
 have f17 := f16.ext cb4
 have f18 := f17.ext cb6
 refine sx_call rfl rfl Tryd.call86 (c_l09Both f15 f18 (by omega)) (fun v19 w19 p19 => ?_)
 obtain ⟨rfl, c19⟩ := p19
 have zw19 := c19.size
 refine sx_pure rfl rfl rfl (px_notP rfl) ?_
 refine wl_nil (q_n (k9 _ _ ?_))
 refine sx_condP rfl (fun h50 => ?_) (fun h50 => ?_)
 ·
  refine sx_seq fun K20 k20 => sx_region ?_
  refine sx_pure rfl rfl rfl (px_build rfl (xbld31x  _)) ?_
  have f22 := fb6.ext c19
  refine sx_store (vs := [.string (⟨#[]⟩), .bool false, (.slice none 0 0)]) rfl rfl f22 rfl Tryd.sizeOf31 (Nat.le_of_ble_eq_true rfl) (one_cons rfl (one_cons rfl (one_cons rfl one_nil))) (fun w21 sw21 fw21 cw21 => ?_)
  have zw21 := cw21.size
  have gw21 : Blk w21 b6 [.string (⟨#[]⟩), .bool false, (.slice none 0 0)] 31 := fw21
  refine sa rfl rfl rfl rfl ?_
  refine wl_nil (q_n (k20 _ _ ?_))
  refine sx_retc ?_
  refine q_r (sx_ret2 Tryd.results45 ⟨_, rfl, gw21.loadA (vs := [.string (⟨#[]⟩), .bool false, (.slice none 0 0)]) (look_lit rfl) Tryd.isAgg31 Tryd.sizeOf31⟩ rfl ?_)
  rw [mBin_no (by assumption)]
  have q23 := Chg.step (l := 0) (h := 0) (Chg.zero (l := 0) (h := 0) (((cb2.t cb4).t cb6).t c19)) cw21 (by omega)
  exact ⟨_, rfl, Own.nil _ _ _ _ _, by simp [noM], q23⟩
 ·
  have hA := Decidable.not_not.1 h50
  obtain ⟨x1, rfl, rfl, hx1⟩ := hA.1.int
  obtain ⟨x2, rfl, rfl, hx2⟩ := hA.2.1.int
  have la := len_addI x1 x2
  have lb := len_addI x1 (-x2)
  have lc : (dg (-x2).natAbs).length = (dg x2.natAbs).length := by rw [Int.natAbs_neg]
  refine sx_skip ?_
  refine q_n (k8 _ _ ?_)
  refine sx_seq fun K24 k24 => ?_
  have f25 := f11.ext c19
  have f26 := f12.ext c19
  have f27 := f15.ext c19
  have f28 := f18.ext c19
  refine dx_region (fun w' => Chg b6 (b6 + 1) w19 w') (by kernel_rfl) (Chg.zero (Chg.drew _)) ?_
  have d29 := Chg.drew w19
  have s29 : Chg b6 (b6 + 1) w19 (World.drew w19) := Chg.zero (Chg.drew _)
  have y29 : (World.drew w19).heap.size = w19.heap.size := rfl
  generalize World.drew w19 = w29 at *
  have zw29 := d29.size
  refine dx_take 0 rfl rfl rfl rfl (by kernel_rfl) (by kernel_rfl) (by kernel_rfl) s29 (fun _ hS => px_field rfl xfld31x0) ?_
  refine dx_take 1 rfl rfl rfl rfl (by kernel_rfl) (by kernel_rfl) (by kernel_rfl) s29 (fun _ hS => px_load rfl ((f25.chg hS (by omega)).load1 rfl Tryd.isAgg9)) ?_
  refine dx_take 2 rfl rfl rfl rfl (by kernel_rfl) (by kernel_rfl) (by kernel_rfl) s29 (fun _ hS => px_field rfl xfld31x1) ?_
  refine dx_take 3 rfl rfl rfl rfl (by kernel_rfl) (by kernel_rfl) (by kernel_rfl) s29 (fun _ hS => px_load rfl ((f25.chg hS (by omega)).loadA (vs := [.bool (ng x1), v1]) (look_lit rfl) Tryd.isAgg29 Tryd.sizeOf29)) ?_
  refine dx_take 4 rfl rfl rfl rfl (by kernel_rfl) (by kernel_rfl) (by kernel_rfl) s29 (fun _ hS => px_field rfl xfld31x1) ?_
  refine dx_take 5 rfl rfl rfl rfl (by kernel_rfl) (by kernel_rfl) (by kernel_rfl) s29 (fun _ hS => px_load rfl ((f26.chg hS (by omega)).loadA (vs := [.bool (ng x2), v2]) (look_lit rfl) Tryd.isAgg29 Tryd.sizeOf29)) ?_
  refine dx_eff 6 rfl (by kernel_rfl) ?_
  have f30 := f27.ext d29
  have f31 := f28.ext d29
  refine sx_call rfl rfl Tryd.call96 (c_IntAddE f30 f31 (by omega) (by omega)) (fun v32 w32 p32 => ?_)
  obtain ⟨s32, rfl, os_32, c32⟩ := p32
  have zw32 := c32.size
  have s33 : Chg b6 (b6 + 1) w19 w32 := (Chg.zero (l := b6) (h := (b6 + 1)) (d29.t c32))
  refine wl_nil ?_
  refine dx_next s33 ?_
  refine dx_eff 7 rfl (by kernel_rfl) ?_
  refine sx_call rfl rfl Tryd.call73 (c_l09Make os_32 (by omega) (by omega)) (fun v34 w34 p34 => ?_)
  obtain ⟨s34, rfl, os_34, c34⟩ := p34
  have zw34 := c34.size
  have s35 : Chg b6 (b6 + 1) w19 w34 := (Chg.zero (l := b6) (h := (b6 + 1)) ((d29.t c32).t c34))
  refine wl_nil ?_
  refine dx_next s35 ?_
  refine dx_take 8 rfl rfl rfl rfl (by kernel_rfl) (by kernel_rfl) (by kernel_rfl) s35 (fun _ hS => px_extract (vs := [.agg #[.string ((mR c1 (x1 + x2)).1), .bool ((mR c1 (x1 + x2)).2.1), s34], .bool ((mR c1 (x1 + x2)).2.2.2)]) rfl rfl) ?_
  refine dx_take 9 rfl rfl rfl rfl (by kernel_rfl) (by kernel_rfl) (by kernel_rfl) s35 (fun _ hS => px_extract (vs := [.agg #[.string ((mR c1 (x1 + x2)).1), .bool ((mR c1 (x1 + x2)).2.1), s34], .bool ((mR c1 (x1 + x2)).2.2.2)]) rfl rfl) ?_
  refine dx_eff 10 rfl (by kernel_rfl) ?_
  have f37 := fb6.ext c19
  have f38 := f37.ext d29
  have f39 := f38.ext c32
  have f40 := f39.ext c34
  refine sx_store (vs := [.string ((mR c1 (x1 + x2)).1), .bool ((mR c1 (x1 + x2)).2.1), s34]) rfl rfl f40 rfl Tryd.sizeOf31 (Nat.le_of_ble_eq_true rfl) (one_cons rfl (one_cons rfl (one_cons os_34.one one_nil))) (fun w36 sw36 fw36 cw36 => ?_)
  have zw36 := cw36.size
  have gw36 : Blk w36 b6 [.string ((mR c1 (x1 + x2)).1), .bool ((mR c1 (x1 + x2)).2.1), s34] 31 := fw36
  have q42 := Chg.step (l := b6) (h := (b6 + 1)) (Chg.zero (l := b6) (h := (b6 + 1)) ((d29.t c32).t c34)) cw36 (by omega)
  have s41 : Chg b6 (b6 + 1) w19 w36 := q42
  refine wl_nil ?_
  refine dx_next s41 ?_
  refine dx_take 11 rfl rfl rfl rfl (by kernel_rfl) (by kernel_rfl) (by kernel_rfl) s41 (fun _ hS => px_assign rfl) ?_
  refine dx_done (by kernel_rfl) ?_
  refine q_n (k24 _ _ ?_)
  refine sx_sub (Sub.cons (t := 4) rfl (.cons (t := 5) rfl (.nil))) ?_
  refine sx_retc ?_
  refine sx_ret2 Tryd.results45 ⟨_, rfl, gw36.loadA (vs := [.string ((mR c1 (x1 + x2)).1), .bool ((mR c1 (x1 + x2)).2.1), s34]) (look_lit rfl) Tryd.isAgg31 Tryd.sizeOf31⟩ rfl ?_
  rw [mBin_ok hA]
  have q43 := Chg.step (l := 0) (h := 0) (Chg.zero (l := 0) (h := 0) ((((((cb2.t cb4).t cb6).t c19).t d29).t c32).t c34)) cw36 (by omega)
  have f44 := os_34.chg cw36 (by omega)
  exact ⟨_, rfl, (Own.mono f44 (by omega) (by omega)), mR_len, q43⟩

theorem c_alike {w : World} {c1 : ByteArray} {n1 : Bool} {v1 : Value} {lv1 uv1 : Nat} {z1 : List Int} {c2 : ByteArray} {n2 : Bool} {v2 : Value} {lv2 uv2 : Nat} {z2 : List Int} (hG0 : Glob w) (hv1 : Sl w lv1 uv1 v1 (z1)) (hv2 : Sl w lv2 uv2 v2 (z2)) (h63 : z1.length ≤ 4611686018427387904 ∧ z2.length ≤ 4611686018427387904) :
  Ret Tryd.prog 88 [.agg #[.string c1, .bool n1, v1], .agg #[.string c2, .bool n2, v2]] w fun v w' => v = .bool (decide (Alike c1 n1 z1 c2 n2 z2)) ∧ Chg 0 0 w w' := by
 have hv10 := hv1.fit
 have hv20 := hv2.fit
 refine sx_enter Tryd.func88 rfl Tryd.ntmps88 (Nat.le_of_ble_eq_true rfl) ?_
 refine sx_seq fun K1 k1 => sx_region ?_
 refine sx_box [.string c1, .bool n1, v1] rfl rfl rfl (fun b2 w3 eb2 sb2 fb2 cb2 => ?_)
 have zw3 := cb2.size
 refine sx_box [.string c2, .bool n2, v2] rfl rfl rfl (fun b4 w5 eb4 sb4 fb4 cb4 => ?_)
 have zw5 := cb4.size
 refine sa rfl rfl rfl rfl ?_
 refine wl_nil (q_n (k1 _ _ ?_))
 refine sx_seq fun K6 k6 => sx_region ?_
 have f7 := fb2.ext cb4
 refine sx_pure rfl rfl rfl (px_load rfl (f7.loadA (vs := [.string c1, .bool n1, v1]) (look_lit rfl) Tryd.isAgg31 Tryd.sizeOf31)) ?_
 have f8 := hG0.ext cb2
 have f9 := f8.ext cb4
 have f10 := hv10.ext cb2
 have f11 := f10.ext cb4
 refine sx_call rfl rfl Tryd.call18 (c_iMoneyOk f9 f11 (by omega)) (fun v12 w12 p12 => ?_)
 obtain ⟨rfl, c12⟩ := p12
 have zw12 := c12.size
 refine sm rfl rfl rfl rfl ?_
 refine sx_tmpP (t := 7) rfl (fun h51 => ?_) (fun h51 => ?_)
 ·
  refine sx_guardT rfl rfl rfl ?_
  have f13 := fb4.ext c12
  refine sx_pure rfl rfl rfl (px_load rfl (f13.loadA (vs := [.string c2, .bool n2, v2]) (look_lit rfl) Tryd.isAgg31 Tryd.sizeOf31)) ?_
  refine sx_guardT rfl rfl rfl ?_
  have f14 := f9.ext c12
  have f15 := hv20.ext cb2
  have f16 := f15.ext cb4
  have f17 := f16.ext c12
  refine sx_call rfl rfl Tryd.call18 (c_iMoneyOk f14 f17 (by omega)) (fun v18 w18 p18 => ?_)
  obtain ⟨rfl, c18⟩ := p18
  have zw18 := c18.size
  refine sx_pure rfl rfl rfl (px_pick rfl rfl) ?_
  refine sm rfl rfl rfl rfl ?_
  refine sx_tmpP (t := 11) rfl (fun h51x1 => ?_) (fun h51x1 => ?_)
  ·
   refine sx_guardT rfl rfl rfl ?_
   refine sx_pure rfl rfl rfl (px_field rfl xfld31x0) ?_
   refine sx_guardT rfl rfl rfl ?_
   have f19 := f7.ext c12
   have f20 := f19.ext c18
   refine sx_pure rfl rfl rfl (px_load rfl (f20.load1 rfl Tryd.isAgg9)) ?_
   refine sx_guardT rfl rfl rfl ?_
   refine sx_pure rfl rfl rfl (px_field rfl xfld31x0) ?_
   refine sx_guardT rfl rfl rfl ?_
   have f21 := f13.ext c18
   refine sx_pure rfl rfl rfl (px_load rfl (f21.load1 rfl Tryd.isAgg9)) ?_
   refine sx_guardT rfl rfl rfl ?_
   refine sx_pure rfl rfl rfl (px_eqS rfl rfl) ?_
   refine sx_pure rfl rfl rfl (px_pick rfl rfl) ?_
   refine sa rfl rfl rfl rfl ?_
   refine wl_nil (q_n (k6 _ _ ?_))
   refine sx_sub (Sub.cons (t := 4) rfl (.nil)) ?_
   refine sx_retc ?_
   refine sx_ret1 Tryd.results88 rfl ?_
   exact ⟨(by first | exact bTrue (by grind [Alike]) | exact bFalse (by grind [Alike]) | exact bIff (by grind [Alike])), (((cb2.t cb4).t c12).t c18)⟩
  ·
   refine sx_guardF rfl rfl rfl rfl rfl rfl ?_
   refine sx_guardF rfl rfl rfl rfl rfl rfl ?_
   refine sx_guardF rfl rfl rfl rfl rfl rfl ?_
   refine sx_guardF rfl rfl rfl rfl rfl rfl ?_
   refine sx_guardF rfl rfl rfl rfl rfl rfl ?_
   refine sx_pure rfl rfl rfl (px_pick rfl rfl) ?_
   refine sa rfl rfl rfl rfl ?_
   refine wl_nil (q_n (k6 _ _ ?_))
   refine sx_sub (Sub.cons (t := 4) rfl (.nil)) ?_
   refine sx_retc ?_
   refine sx_ret1 Tryd.results88 rfl ?_
   exact ⟨(by first | exact bTrue (by grind [Alike]) | exact bFalse (by grind [Alike]) | exact bIff (by grind [Alike])), (((cb2.t cb4).t c12).t c18)⟩
 ·
  refine sx_guardF rfl rfl rfl rfl rfl rfl ?_
  refine sx_guardF rfl rfl rfl rfl rfl rfl ?_
  refine sx_pure rfl rfl rfl (px_pick rfl rfl) ?_
  refine sm rfl rfl rfl rfl ?_
  refine sx_guardF rfl rfl rfl rfl rfl rfl ?_
  refine sx_guardF rfl rfl rfl rfl rfl rfl ?_
  refine sx_guardF rfl rfl rfl rfl rfl rfl ?_
  refine sx_guardF rfl rfl rfl rfl rfl rfl ?_
  refine sx_guardF rfl rfl rfl rfl rfl rfl ?_
  refine sx_pure rfl rfl rfl (px_pick rfl rfl) ?_
  refine sa rfl rfl rfl rfl ?_
  refine wl_nil (q_n (k6 _ _ ?_))
  refine sx_sub (Sub.cons (t := 4) rfl (.nil)) ?_
  refine sx_retc ?_
  refine sx_ret1 Tryd.results88 rfl ?_
  exact ⟨(by first | exact bTrue (by grind [Alike]) | exact bFalse (by grind [Alike]) | exact bIff (by grind [Alike])), ((cb2.t cb4).t c12)⟩

theorem c_trim {w : World} {va : Value} {lva uva : Nat} {zs : List Int} (hva : OwnI w lva uva va intT (zs)) (hz : Lm zs) (h63 : zs.length ≤ 1000000) :
  Ret Tryd.prog 126 [va] w fun v w' => ∃ s, v = s ∧ OwnI w' (lva) (uva) s intT (dg (vl zs)) ∧ Chg 0 0 w w' := by
 refine sx_enter Tryd.func126 rfl Tryd.ntmps126 (Nat.le_of_ble_eq_true rfl) ?_
 refine sx_seq fun K1 k1 => sx_region ?_
 refine sa rfl rfl rfl rfl ?_
 refine wl_nil (q_n (k1 _ _ ?_))
 refine sx_seq fun K2 k2 => ?_
 refine sx_block ?_
 refine sx_loop (fun mm aa w' => ∃ (k : Nat) (s : Value), Agr 21 [(0, s)] aa ∧ Chg 0 0 w w' ∧ Own w' lva uva s intT ((zs.take k).length) 1 ((zs.take k).map (Value.int .i64)) ∧ (mm = k) ∧ (k ≤ zs.length) ∧ (vl (zs.take k) = vl zs)) (_) (fun a ha => ⟨zs.length, va, ha.sub (Sub.cons (t := 0) rfl (.nil)), Chg.refl _ _ _, (by rw [List.take_length]; exact hva), rfl, by omega, vl_take_all zs⟩) ?_
 rintro mm aa wl3 ⟨k, s, hAwl3, cwl3, hs_s, hm, hk, hv⟩
 refine (show cw Tryd.prog 21 _ _ _ wl3 from ?_) aa hAwl3
 clear hAwl3
 have zwl3 := cwl3.size
 have hlt : (zs.take k).length = k := by rw [List.length_take]; omega
 refine sx_seq fun K4 k4 => ?_
 refine sx_seq fun K5 k5 => sx_region ?_
 refine sm rfl rfl rfl rfl ?_
 refine sx_pure rfl rfl rfl (px_len rfl Tryd.underlying22 hs_s.sv) ?_
 refine sx_pure rfl rfl rfl (px_gt rfl rfl) ?_
 refine sm rfl rfl rfl rfl ?_
 refine sx_tmpP (t := 6) rfl (fun h29 => ?_) (fun h29 => ?_)
 ·
  refine sx_guardT rfl rfl rfl ?_
  refine sm rfl rfl rfl rfl ?_
  refine sx_guardT rfl rfl rfl ?_
  refine sm rfl rfl rfl rfl ?_
  refine sx_guardT rfl rfl rfl ?_
  refine sx_pure rfl rfl rfl (px_len rfl Tryd.underlying22 hs_s.sv) ?_
  refine sx_guardT rfl rfl rfl ?_
  refine sx_pure rfl rfl rfl (px_sub rfl rfl (by omega)) ?_
  refine sx_guardT rfl rfl rfl ?_
  refine sx_pure rfl rfl rfl (px_index1 (j := (k - 1)) rfl rfl (by omega) Tryd.underlying22 Tryd.sizeOf3 hs_s.sv (by omega)) ?_
  refine sx_guardT rfl rfl rfl ?_
  refine sx_pure rfl rfl rfl (px_load rfl (hs_s.sv.load1 (at_int (by omega)) Tryd.isAgg3)) ?_
  refine sx_guardT rfl rfl rfl ?_
  refine sx_pure rfl rfl rfl (px_eq rfl rfl) ?_
  refine sx_pure rfl rfl rfl (px_pick rfl rfl) ?_
  refine wl_nil (q_n (k5 _ _ ?_))
  refine sx_condP rfl (fun h29x1 => ?_) (fun h29x1 => ?_)
  ·
   refine sx_skip ?_
   refine q_n (k4 _ _ ?_)
   refine sx_block ?_
   refine sx_region ?_
   refine sm rfl rfl rfl rfl ?_
   refine sm rfl rfl rfl rfl ?_
   refine sx_pure rfl rfl rfl (px_len rfl Tryd.underlying22 hs_s.sv) ?_
   refine sx_pure rfl rfl rfl (px_sub rfl rfl (by omega)) ?_
   refine sx_pure rfl rfl rfl (px_sliceTo (h := (k - 1)) rfl rfl (by omega) Tryd.underlying22 Tryd.sizeOf3 hs_s.sv (by omega)) ?_
   refine sa rfl rfl rfl rfl ?_
   refine wl_nil ?_
   exact q_bn (fun a ha => ⟨_, by omega, (k - 1), (vtake s (k - 1)), ha.sub (Sub.cons (t := 0) rfl (.nil)), cwl3, (by have hh := (Own.takeI hs_s (h := (k - 1)) (by omega)); rwa [List.take_take, Nat.min_eq_left (by omega)] at hh), rfl, by omega, trim_step (by omega) hk h29x1 hv⟩)
  ·
   refine sx_exit ?_
   refine q_e (q_e (q_bx (q_n (k2 _ _ ?_))))
   refine sx_seq fun K6 k6 => sx_region ?_
   refine sm rfl rfl rfl rfl ?_
   refine sa rfl rfl rfl rfl ?_
   refine wl_nil (q_n (k6 _ _ ?_))
   refine sx_sub (Sub.cons (t := 2) rfl (.nil)) ?_
   refine sx_retc ?_
   refine sx_ret1 Tryd.results126 rfl ?_
   have hd := trim_done hz hk hv (by first | exact .inl (by omega) | exact .inr (by assumption))
   rw [← hd]
   exact ⟨_, rfl, hs_s, cwl3⟩
 ·
  refine sx_guardF rfl rfl rfl rfl rfl rfl ?_
  refine sx_guardF rfl rfl rfl rfl rfl rfl ?_
  refine sx_guardF rfl rfl rfl rfl rfl rfl ?_
  refine sx_guardF rfl rfl rfl rfl rfl rfl ?_
  refine sx_guardF rfl rfl rfl rfl rfl rfl ?_
  refine sx_guardF rfl rfl rfl rfl rfl rfl ?_
  refine sx_guardF rfl rfl rfl rfl rfl rfl ?_
  refine sx_pure rfl rfl rfl (px_pick rfl rfl) ?_
  refine wl_nil (q_n (k5 _ _ ?_))
  refine sx_condF rfl ?_
  refine sx_exit ?_
  refine q_e (q_e (q_bx (q_n (k2 _ _ ?_))))
  refine sx_seq fun K7 k7 => sx_region ?_
  refine sm rfl rfl rfl rfl ?_
  refine sa rfl rfl rfl rfl ?_
  refine wl_nil (q_n (k7 _ _ ?_))
  refine sx_sub (Sub.cons (t := 2) rfl (.nil)) ?_
  refine sx_retc ?_
  refine sx_ret1 Tryd.results126 rfl ?_
  have hd := trim_done hz hk hv (by first | exact .inl (by omega) | exact .inr (by assumption))
  rw [← hd]
  exact ⟨_, rfl, hs_s, cwl3⟩

theorem c_natAdd {w : World} {va : Value} {lva uva : Nat} {m : Nat} {vb : Value} {lvb uvb : Nat} {n : Nat} (hva : Sl w lva uva va (dg m)) (hvb : Sl w lvb uvb vb (dg n)) (hbm : (dg m).length ≤ 1000) (hbn : (dg n).length ≤ 1000) :
  Ret Tryd.prog 119 [va, vb] w fun v w' => ∃ s, v = s ∧ OwnI w' w.heap.size w'.heap.size s intT (dg (m + n)) ∧ Chg 0 0 w w' := by
 have hva0 := hva.fit
 have hvb0 := hvb.fit
 refine sx_enter Tryd.func119 rfl Tryd.ntmps119 (Nat.le_of_ble_eq_true rfl) ?_
 refine sx_seq fun K1 k1 => sx_region ?_
 refine sa rfl rfl rfl rfl ?_
 refine wl_nil (q_n (k1 _ _ ?_))
 refine sx_seq fun K2 k2 => sx_region ?_
 refine sm rfl rfl rfl rfl ?_
 refine sx_pure rfl rfl rfl (px_len rfl Tryd.underlying22 hva0) ?_
 refine sm rfl rfl rfl rfl ?_
 refine sx_pure rfl rfl rfl (px_len rfl Tryd.underlying22 hvb0) ?_
 refine sx_pure rfl rfl rfl (px_max rfl rfl) ?_
 refine sx_pure rfl rfl rfl (px_add rfl rfl (by omega)) ?_
 refine sx_make0 (c := max (dg m).length (dg n).length + 1) rfl xelt22 rfl (look_int rfl (by omega)) (by omega) (by unfold maxLen; omega) (fun s3 ws3 fs3 cs3 ls3 => ?_)
 have zws3 := cs3.size
 refine sa rfl rfl rfl rfl ?_
 refine wl_nil (q_n (k2 _ _ ?_))
 refine sx_seq fun K4 k4 => sx_region ?_
 refine sa rfl rfl rfl rfl ?_
 refine wl_nil (q_n (k4 _ _ ?_))
 refine sx_seq fun K5 k5 => ?_
 refine sx_seq fun K6 k6 => sx_region ?_
 refine sa rfl rfl rfl rfl ?_
 refine wl_nil (q_n (k6 _ _ ?_))
 refine sx_block ?_
 refine sx_loop (fun mm aa w' => ∃ (k : Nat) (s : Value) (os : List Int) (c : Nat), Agr 56 [(0, va), (1, vb), (5, s), (6, .int .i64 ((c : Nat) : Int)), (7, .int .i64 ↑k)] aa ∧ Chg w.heap.size ws3.heap.size ws3 w' ∧ Own w' w.heap.size w'.heap.size s intT os.length 1 (os.map (Value.int .i64)) ∧ (mm = max (dg m).length (dg n).length + 1 - k) ∧ (os.length = k) ∧ (Lm os) ∧ (c ≤ 1) ∧ (k ≤ max (dg m).length (dg n).length) ∧ (vl os + Bs ^ k * c = vl ((dg m).take k) + vl ((dg n).take k))) (_) (fun a ha => ⟨0, s3, [], 0, ha.sub (Sub.cons (t := 0) rfl (.cons (t := 1) rfl (.cons (t := 5) rfl (.cons (t := 6) (look_int (t := 6) rfl (by first | omega | simp)) (.cons (t := 7) (look_int (t := 7) rfl (by first | omega | simp)) (.nil)))))), Chg.refl _ _ _, (fs3.mono (by omega) (by omega)), rfl, rfl, Lm.nil, by omega, by omega, by simp [vl]⟩) ?_
 rintro mm aa wl7 ⟨k, s, os, c, hAwl7, cwl7, hs_s, hm, hos, hlm, hc, hk, hv⟩
 refine (show cw Tryd.prog 56 _ _ _ wl7 from ?_) aa hAwl7
 clear hAwl7
 have zwl7 := cwl7.size
 have am := (Lm_dg m).getD k
 have bn := (Lm_dg n).getD k
 refine sx_seq fun K8 k8 => ?_
 refine sx_seq fun K9 k9 => sx_region ?_
 refine sm rfl rfl rfl rfl ?_
 refine sm rfl rfl rfl rfl ?_
 have f10 := hva0.ext cs3
 have f11 := f10.chg cwl7 (by omega)
 refine sx_pure rfl rfl rfl (px_len rfl Tryd.underlying22 f11) ?_
 refine sm rfl rfl rfl rfl ?_
 have f12 := hvb0.ext cs3
 have f13 := f12.chg cwl7 (by omega)
 refine sx_pure rfl rfl rfl (px_len rfl Tryd.underlying22 f13) ?_
 refine sx_pure rfl rfl rfl (px_max rfl rfl) ?_
 refine sx_pure rfl rfl rfl (px_lt rfl rfl) ?_
 refine wl_nil (q_n (k9 _ _ ?_))
 refine sx_condP rfl (fun h105 => ?_) (fun h105 => ?_)
 ·
  refine sx_skip ?_
  refine q_n (k8 _ _ ?_)
  refine sx_seq fun K14 k14 => ?_
  refine sx_block ?_
  refine sx_seq fun K15 k15 => ?_
  refine sx_seq fun K16 k16 => sx_region ?_
  refine sm rfl rfl rfl rfl ?_
  refine sm rfl rfl rfl rfl ?_
  refine sx_pure rfl rfl rfl (px_len rfl Tryd.underlying22 f11) ?_
  refine sx_pure rfl rfl rfl (px_lt rfl rfl) ?_
  refine wl_nil (q_n (k16 _ _ ?_))
  refine sx_sub (Sub.cons (t := 0) rfl (.cons (t := 1) rfl (.cons (t := 5) rfl (.cons (t := 6) rfl (.cons (t := 7) rfl (.cons (t := 27) rfl (.nil))))))) ?_
  refine sx_condP rfl (fun h106 => ?_) (fun h106 => ?_)
  ·
   refine sx_region ?_
   refine sm rfl rfl rfl rfl ?_
   refine sm rfl rfl rfl rfl ?_
   refine sm rfl rfl rfl rfl ?_
   refine sx_pure rfl rfl rfl (px_index1 (j := k) rfl rfl (by omega) Tryd.underlying22 Tryd.sizeOf3 f11 (by omega)) ?_
   refine sx_pure rfl rfl rfl (px_load rfl (f11.load1 (at_int (by omega)) Tryd.isAgg3)) ?_
   refine sx_pure rfl rfl rfl (px_add rfl rfl (by omega)) ?_
   refine sa rfl rfl rfl rfl ?_
   refine wl_nil (q_n (k15 _ _ ?_))
   refine sx_seq fun K17 k17 => ?_
   refine sx_seq fun K18 k18 => sx_region ?_
   refine sm rfl rfl rfl rfl ?_
   refine sm rfl rfl rfl rfl ?_
   refine sx_pure rfl rfl rfl (px_len rfl Tryd.underlying22 f13) ?_
   refine sx_pure rfl rfl rfl (px_lt rfl rfl) ?_
   refine wl_nil (q_n (k18 _ _ ?_))
   refine sx_sub (Sub.cons (t := 0) rfl (.cons (t := 1) rfl (.cons (t := 5) rfl (.cons (t := 6) rfl (.cons (t := 7) rfl (.cons (t := 37) rfl (.nil))))))) ?_
   refine sx_condP rfl (fun h109 => ?_) (fun h109 => ?_)
   ·
    refine sx_region ?_
    refine sm rfl rfl rfl rfl ?_
    refine sm rfl rfl rfl rfl ?_
    refine sm rfl rfl rfl rfl ?_
    refine sx_pure rfl rfl rfl (px_index1 (j := k) rfl rfl (by omega) Tryd.underlying22 Tryd.sizeOf3 f13 (by omega)) ?_
    refine sx_pure rfl rfl rfl (px_load rfl (f13.load1 (at_int (by omega)) Tryd.isAgg3)) ?_
    refine sx_pure rfl rfl rfl (px_add rfl rfl (by omega)) ?_
    refine sa rfl rfl rfl rfl ?_
    refine wl_nil (q_n (k17 _ _ ?_))
    refine sx_seq fun K19 k19 => sx_region ?_
    refine sm rfl rfl rfl rfl ?_
    refine sm rfl rfl rfl rfl ?_
    refine sx_pure rfl rfl rfl (px_rem rfl rfl (by omega) (by omega)) ?_
    refine sx_lit1 rfl xelt22 rfl rfl (fun s20 ws20 ss20 fs20 cs20 => ?_)
    have ns20 := Own.norm (f := (Value.int .i64)) (zs := [((((c : Nat) : Int) + ((dg m).getD k 0)) + ((dg n).getD k 0)) % 1000000000]) fs20
    have zws20 := cs20.size
    have f22 := hs_s.ext cs20
    refine sx_append rfl xelt22 rfl rfl f22 ns20.sv one_int (by omega) (by simp only [List.length_cons, List.length_nil]; omega) (by unfold maxLen; simp only [List.length_cons, List.length_nil]; omega) (fun a21 w21 fw21 cw21 => ?_)
    have nw21 := Own.app (f := (Value.int .i64)) (a := os) (b := [((((c : Nat) : Int) + ((dg m).getD k 0)) + ((dg n).getD k 0)) % 1000000000]) fw21
    have zw21 := cw21.size
    refine sa rfl rfl rfl rfl ?_
    refine wl_nil (q_n (k19 _ _ ?_))
    refine sx_sub (Sub.cons (t := 0) rfl (.cons (t := 1) rfl (.cons (t := 5) rfl (.cons (t := 6) rfl (.cons (t := 7) rfl (.nil)))))) ?_
    refine sx_region ?_
    refine sm rfl rfl rfl rfl ?_
    refine sx_pure rfl rfl rfl (px_quo rfl rfl (by omega) (by omega) (by omega)) ?_
    refine sa rfl rfl rfl rfl ?_
    refine wl_nil ?_
    refine q_bn (q_n (k14 _ _ ?_))
    refine sx_region ?_
    refine sm rfl rfl rfl rfl ?_
    refine sx_pure rfl rfl rfl (px_add rfl rfl (by omega)) ?_
    refine sa rfl rfl rfl rfl ?_
    refine wl_nil ?_
    have q23 := Chg.step (l := w.heap.size) (h := ws3.heap.size) cwl7 cs20 (by omega)
    have q24 := Chg.step (l := w.heap.size) (h := ws3.heap.size) q23 cw21 (by omega)
    have hs : (((((c : Nat) : Int) + ((dg m).getD k 0)) + ((dg n).getD k 0)) : Int) = ((c : Nat) : Int) + (((dg m).getD k 0).toNat : Nat) + (((dg n).getD k 0).toNat : Nat) := by omega
    have hv2 : vl (os ++ [(((((c : Nat) : Int) + ((dg m).getD k 0)) + ((dg n).getD k 0))) % 1000000000]) + Bs ^ (k + 1) * ((((((c : Nat) : Int) + ((dg m).getD k 0)) + ((dg n).getD k 0))) / 1000000000 : Int).toNat = vl ((dg m).take (k + 1)) + vl ((dg n).take (k + 1)) := by
     rw [vl_concat, hos, vl_take_succ', vl_take_succ', Nat.pow_succ]
     exact add_step hs hv
    have hX := mod_bd (s := ((((c : Nat) : Int) + ((dg m).getD k 0)) + ((dg n).getD k 0))) (by omega)
    exact fun a ha => ⟨_, by omega, (k + 1), a21, (os ++ ([((((c : Nat) : Int) + ((dg m).getD k 0)) + ((dg n).getD k 0)) % 1000000000])), ((((((c : Nat) : Int) + ((dg m).getD k 0)) + ((dg n).getD k 0))) / 1000000000 : Int).toNat, ha.sub (Sub.cons (t := 0) rfl (.cons (t := 1) rfl (.cons (t := 5) rfl (.cons (t := 6) (look_int (t := 6) rfl (by first | omega | simp)) (.cons (t := 7) (look_int (t := 7) rfl (by first | omega | simp)) (.nil)))))), q24, (nw21.mono (by omega) (by omega)), rfl, by simp [hos], hlm.append (Lm.single hX.1 hX.2), by omega, by omega, hv2⟩
   ·
    have gn := getD_ge (zs := dg n) (k := k) (by omega)
    refine sx_skip ?_
    refine q_n (k17 _ _ ?_)
    refine sx_seq fun K25 k25 => sx_region ?_
    refine sm rfl rfl rfl rfl ?_
    refine sm rfl rfl rfl rfl ?_
    refine sx_pure rfl rfl rfl (px_rem rfl rfl (by omega) (by omega)) ?_
    refine sx_lit1 rfl xelt22 rfl rfl (fun s26 ws26 ss26 fs26 cs26 => ?_)
    have ns26 := Own.norm (f := (Value.int .i64)) (zs := [(((c : Nat) : Int) + ((dg m).getD k 0)) % 1000000000]) fs26
    have zws26 := cs26.size
    have f28 := hs_s.ext cs26
    refine sx_append rfl xelt22 rfl rfl f28 ns26.sv one_int (by omega) (by simp only [List.length_cons, List.length_nil]; omega) (by unfold maxLen; simp only [List.length_cons, List.length_nil]; omega) (fun a27 w27 fw27 cw27 => ?_)
    have nw27 := Own.app (f := (Value.int .i64)) (a := os) (b := [(((c : Nat) : Int) + ((dg m).getD k 0)) % 1000000000]) fw27
    have zw27 := cw27.size
    refine sa rfl rfl rfl rfl ?_
    refine wl_nil (q_n (k25 _ _ ?_))
    refine sx_region ?_
    refine sm rfl rfl rfl rfl ?_
    refine sx_pure rfl rfl rfl (px_quo rfl rfl (by omega) (by omega) (by omega)) ?_
    refine sa rfl rfl rfl rfl ?_
    refine wl_nil ?_
    refine q_bn (q_n (k14 _ _ ?_))
    refine sx_region ?_
    refine sm rfl rfl rfl rfl ?_
    refine sx_pure rfl rfl rfl (px_add rfl rfl (by omega)) ?_
    refine sa rfl rfl rfl rfl ?_
    refine wl_nil ?_
    have q29 := Chg.step (l := w.heap.size) (h := ws3.heap.size) cwl7 cs26 (by omega)
    have q30 := Chg.step (l := w.heap.size) (h := ws3.heap.size) q29 cw27 (by omega)
    have hs : ((((c : Nat) : Int) + ((dg m).getD k 0)) : Int) = ((c : Nat) : Int) + (((dg m).getD k 0).toNat : Nat) + (((dg n).getD k 0).toNat : Nat) := by omega
    have hv2 : vl (os ++ [((((c : Nat) : Int) + ((dg m).getD k 0))) % 1000000000]) + Bs ^ (k + 1) * (((((c : Nat) : Int) + ((dg m).getD k 0))) / 1000000000 : Int).toNat = vl ((dg m).take (k + 1)) + vl ((dg n).take (k + 1)) := by
     rw [vl_concat, hos, vl_take_succ', vl_take_succ', Nat.pow_succ]
     exact add_step hs hv
    have hX := mod_bd (s := (((c : Nat) : Int) + ((dg m).getD k 0))) (by omega)
    exact fun a ha => ⟨_, by omega, (k + 1), a27, (os ++ ([(((c : Nat) : Int) + ((dg m).getD k 0)) % 1000000000])), (((((c : Nat) : Int) + ((dg m).getD k 0))) / 1000000000 : Int).toNat, ha.sub (Sub.cons (t := 0) rfl (.cons (t := 1) rfl (.cons (t := 5) rfl (.cons (t := 6) (look_int (t := 6) rfl (by first | omega | simp)) (.cons (t := 7) (look_int (t := 7) rfl (by first | omega | simp)) (.nil)))))), q30, (nw27.mono (by omega) (by omega)), rfl, by simp [hos], hlm.append (Lm.single hX.1 hX.2), by omega, by omega, hv2⟩
  ·
   have gm := getD_ge (zs := dg m) (k := k) (by omega)
   refine sx_skip ?_
   refine q_n (k15 _ _ ?_)
   refine sx_seq fun K31 k31 => ?_
   refine sx_seq fun K32 k32 => sx_region ?_
   refine sm rfl rfl rfl rfl ?_
   refine sm rfl rfl rfl rfl ?_
   refine sx_pure rfl rfl rfl (px_len rfl Tryd.underlying22 f13) ?_
   refine sx_pure rfl rfl rfl (px_lt rfl rfl) ?_
   refine wl_nil (q_n (k32 _ _ ?_))
   refine sx_condP rfl (fun h109 => ?_) (fun h109 => ?_)
   ·
    refine sx_region ?_
    refine sm rfl rfl rfl rfl ?_
    refine sm rfl rfl rfl rfl ?_
    refine sm rfl rfl rfl rfl ?_
    refine sx_pure rfl rfl rfl (px_index1 (j := k) rfl rfl (by omega) Tryd.underlying22 Tryd.sizeOf3 f13 (by omega)) ?_
    refine sx_pure rfl rfl rfl (px_load rfl (f13.load1 (at_int (by omega)) Tryd.isAgg3)) ?_
    refine sx_pure rfl rfl rfl (px_add rfl rfl (by omega)) ?_
    refine sa rfl rfl rfl rfl ?_
    refine wl_nil (q_n (k31 _ _ ?_))
    refine sx_sub (Sub.cons (t := 0) rfl (.cons (t := 1) rfl (.cons (t := 5) rfl (.cons (t := 6) rfl (.cons (t := 7) rfl (.nil)))))) ?_
    refine sx_seq fun K33 k33 => sx_region ?_
    refine sm rfl rfl rfl rfl ?_
    refine sm rfl rfl rfl rfl ?_
    refine sx_pure rfl rfl rfl (px_rem rfl rfl (by omega) (by omega)) ?_
    refine sx_lit1 rfl xelt22 rfl rfl (fun s34 ws34 ss34 fs34 cs34 => ?_)
    have ns34 := Own.norm (f := (Value.int .i64)) (zs := [(((c : Nat) : Int) + ((dg n).getD k 0)) % 1000000000]) fs34
    have zws34 := cs34.size
    have f36 := hs_s.ext cs34
    refine sx_append rfl xelt22 rfl rfl f36 ns34.sv one_int (by omega) (by simp only [List.length_cons, List.length_nil]; omega) (by unfold maxLen; simp only [List.length_cons, List.length_nil]; omega) (fun a35 w35 fw35 cw35 => ?_)
    have nw35 := Own.app (f := (Value.int .i64)) (a := os) (b := [(((c : Nat) : Int) + ((dg n).getD k 0)) % 1000000000]) fw35
    have zw35 := cw35.size
    refine sa rfl rfl rfl rfl ?_
    refine wl_nil (q_n (k33 _ _ ?_))
    refine sx_region ?_
    refine sm rfl rfl rfl rfl ?_
    refine sx_pure rfl rfl rfl (px_quo rfl rfl (by omega) (by omega) (by omega)) ?_
    refine sa rfl rfl rfl rfl ?_
    refine wl_nil ?_
    refine q_bn (q_n (k14 _ _ ?_))
    refine sx_region ?_
    refine sm rfl rfl rfl rfl ?_
    refine sx_pure rfl rfl rfl (px_add rfl rfl (by omega)) ?_
    refine sa rfl rfl rfl rfl ?_
    refine wl_nil ?_
    have q37 := Chg.step (l := w.heap.size) (h := ws3.heap.size) cwl7 cs34 (by omega)
    have q38 := Chg.step (l := w.heap.size) (h := ws3.heap.size) q37 cw35 (by omega)
    have hs : ((((c : Nat) : Int) + ((dg n).getD k 0)) : Int) = ((c : Nat) : Int) + (((dg m).getD k 0).toNat : Nat) + (((dg n).getD k 0).toNat : Nat) := by omega
    have hv2 : vl (os ++ [((((c : Nat) : Int) + ((dg n).getD k 0))) % 1000000000]) + Bs ^ (k + 1) * (((((c : Nat) : Int) + ((dg n).getD k 0))) / 1000000000 : Int).toNat = vl ((dg m).take (k + 1)) + vl ((dg n).take (k + 1)) := by
     rw [vl_concat, hos, vl_take_succ', vl_take_succ', Nat.pow_succ]
     exact add_step hs hv
    have hX := mod_bd (s := (((c : Nat) : Int) + ((dg n).getD k 0))) (by omega)
    exact fun a ha => ⟨_, by omega, (k + 1), a35, (os ++ ([(((c : Nat) : Int) + ((dg n).getD k 0)) % 1000000000])), (((((c : Nat) : Int) + ((dg n).getD k 0))) / 1000000000 : Int).toNat, ha.sub (Sub.cons (t := 0) rfl (.cons (t := 1) rfl (.cons (t := 5) rfl (.cons (t := 6) (look_int (t := 6) rfl (by first | omega | simp)) (.cons (t := 7) (look_int (t := 7) rfl (by first | omega | simp)) (.nil)))))), q38, (nw35.mono (by omega) (by omega)), rfl, by simp [hos], hlm.append (Lm.single hX.1 hX.2), by omega, by omega, hv2⟩
   ·
    have gn := getD_ge (zs := dg n) (k := k) (by omega)
    refine sx_skip ?_
    refine q_n (k31 _ _ ?_)
    refine sx_seq fun K39 k39 => sx_region ?_
    refine sm rfl rfl rfl rfl ?_
    refine sm rfl rfl rfl rfl ?_
    refine sx_pure rfl rfl rfl (px_rem rfl rfl (by omega) (by omega)) ?_
    refine sx_lit1 rfl xelt22 rfl rfl (fun s40 ws40 ss40 fs40 cs40 => ?_)
    have ns40 := Own.norm (f := (Value.int .i64)) (zs := [((c : Nat) : Int) % 1000000000]) fs40
    have zws40 := cs40.size
    have f42 := hs_s.ext cs40
    refine sx_append rfl xelt22 rfl rfl f42 ns40.sv one_int (by omega) (by simp only [List.length_cons, List.length_nil]; omega) (by unfold maxLen; simp only [List.length_cons, List.length_nil]; omega) (fun a41 w41 fw41 cw41 => ?_)
    have nw41 := Own.app (f := (Value.int .i64)) (a := os) (b := [((c : Nat) : Int) % 1000000000]) fw41
    have zw41 := cw41.size
    refine sa rfl rfl rfl rfl ?_
    refine wl_nil (q_n (k39 _ _ ?_))
    refine sx_sub (Sub.cons (t := 0) rfl (.cons (t := 1) rfl (.cons (t := 5) rfl (.cons (t := 6) rfl (.cons (t := 7) rfl (.nil)))))) ?_
    refine sx_region ?_
    refine sm rfl rfl rfl rfl ?_
    refine sx_pure rfl rfl rfl (px_quo rfl rfl (by omega) (by omega) (by omega)) ?_
    refine sa rfl rfl rfl rfl ?_
    refine wl_nil ?_
    refine q_bn (q_n (k14 _ _ ?_))
    refine sx_region ?_
    refine sm rfl rfl rfl rfl ?_
    refine sx_pure rfl rfl rfl (px_add rfl rfl (by omega)) ?_
    refine sa rfl rfl rfl rfl ?_
    refine wl_nil ?_
    have q43 := Chg.step (l := w.heap.size) (h := ws3.heap.size) cwl7 cs40 (by omega)
    have q44 := Chg.step (l := w.heap.size) (h := ws3.heap.size) q43 cw41 (by omega)
    have hs : (((c : Nat) : Int) : Int) = ((c : Nat) : Int) + (((dg m).getD k 0).toNat : Nat) + (((dg n).getD k 0).toNat : Nat) := by omega
    have hv2 : vl (os ++ [(((c : Nat) : Int)) % 1000000000]) + Bs ^ (k + 1) * ((((c : Nat) : Int)) / 1000000000 : Int).toNat = vl ((dg m).take (k + 1)) + vl ((dg n).take (k + 1)) := by
     rw [vl_concat, hos, vl_take_succ', vl_take_succ', Nat.pow_succ]
     exact add_step hs hv
    have hX := mod_bd (s := ((c : Nat) : Int)) (by omega)
    exact fun a ha => ⟨_, by omega, (k + 1), a41, (os ++ ([((c : Nat) : Int) % 1000000000])), ((((c : Nat) : Int)) / 1000000000 : Int).toNat, ha.sub (Sub.cons (t := 0) rfl (.cons (t := 1) rfl (.cons (t := 5) rfl (.cons (t := 6) (look_int (t := 6) rfl (by first | omega | simp)) (.cons (t := 7) (look_int (t := 7) rfl (by first | omega | simp)) (.nil)))))), q44, (nw41.mono (by omega) (by omega)), rfl, by simp [hos], hlm.append (Lm.single hX.1 hX.2), by omega, by omega, hv2⟩
 ·
  refine sx_exit ?_
  refine q_e (q_e (q_bx (q_n (k5 _ _ ?_))))
  refine sx_seq fun K45 k45 => ?_
  have ek : k = max (dg m).length (dg n).length := by omega
  have hz : Lm (os ++ [((c : Nat) : Int)]) := hlm.append (Lm.single (by omega) (by omega))
  have hvv : vl (os ++ [((c : Nat) : Int)]) = m + n := by rw [vl_concat, hos, Int.toNat_natCast, hv, vl_take_ge (by omega), vl_take_ge (by omega), vl_dg, vl_dg]
  refine sx_region ?_
  refine sm rfl rfl rfl rfl ?_
  refine sm rfl rfl rfl rfl ?_
  refine sx_lit1 rfl xelt22 rfl rfl (fun s46 ws46 ss46 fs46 cs46 => ?_)
  have ns46 := Own.norm (f := (Value.int .i64)) (zs := [((c : Nat) : Int)]) fs46
  have zws46 := cs46.size
  have f48 := hs_s.ext cs46
  refine sx_append rfl xelt22 rfl rfl f48 ns46.sv one_int (by omega) (by simp only [List.length_cons, List.length_nil]; omega) (by unfold maxLen; simp only [List.length_cons, List.length_nil]; omega) (fun a47 w47 fw47 cw47 => ?_)
  have nw47 := Own.app (f := (Value.int .i64)) (a := os) (b := [((c : Nat) : Int)]) fw47
  have zw47 := cw47.size
  refine sx_call rfl rfl Tryd.call126 (c_trim nw47 (by assumption) (by first | omega | (simp only [List.length_append, List.length_set, List.length_replicate, List.length_cons, List.length_nil] at *; omega))) (fun v49 w49 p49 => ?_)
  obtain ⟨s49, rfl, os_49, c49⟩ := p49
  have zw49 := c49.size
  refine sa rfl rfl rfl rfl ?_
  refine wl_nil (q_n (k45 _ _ ?_))
  refine sx_sub (Sub.cons (t := 4) rfl (.nil)) ?_
  refine sx_retc ?_
  refine sx_ret1 Tryd.results119 rfl ?_
  have hr := os_49
  rw [hvv] at hr
  have q50 := Chg.step (l := 0) (h := 0) (Chg.zero (l := 0) (h := 0) cs3) cwl7 (by omega)
  have q51 := Chg.step (l := 0) (h := 0) q50 cs46 (by omega)
  have q52 := Chg.step (l := 0) (h := 0) q51 cw47 (by omega)
  have q53 := Chg.step (l := 0) (h := 0) q52 c49 (by omega)
  exact ⟨_, rfl, hr.mono (by omega) (by omega), q53⟩

theorem c_natCmp {w : World} {va : Value} {lva uva : Nat} {zs : List Int} {vb : Value} {lvb uvb : Nat} {ys : List Int} (hva : Sl w lva uva va (zs)) (hvb : Sl w lvb uvb vb (ys)) (h63 : zs.length ≤ 4611686018427387904 ∧ ys.length ≤ 4611686018427387904) :
  Ret Tryd.prog 120 [va, vb] w fun v w' => v = .int .i64 (cmpL zs ys) ∧ Chg 0 0 w w' := by
 have hva0 := hva.fit
 have hvb0 := hvb.fit
 have zs0 : zs.drop zs.length = [] := by simp
 have ys0 : ys.drop ys.length = [] := by simp
 refine sx_enter Tryd.func120 rfl Tryd.ntmps120 (Nat.le_of_ble_eq_true rfl) ?_
 refine sx_seq fun K1 k1 => sx_region ?_
 refine sa rfl rfl rfl rfl ?_
 refine wl_nil (q_n (k1 _ _ ?_))
 refine sx_seq fun K2 k2 => ?_
 refine sx_seq fun K3 k3 => sx_region ?_
 refine sm rfl rfl rfl rfl ?_
 refine sx_pure rfl rfl rfl (px_len rfl Tryd.underlying22 hva0) ?_
 refine sm rfl rfl rfl rfl ?_
 refine sx_pure rfl rfl rfl (px_len rfl Tryd.underlying22 hvb0) ?_
 refine sx_pure rfl rfl rfl (px_ne rfl rfl) ?_
 refine wl_nil (q_n (k3 _ _ ?_))
 refine sx_condP rfl (fun h76 => ?_) (fun h76 => ?_)
 ·
  refine sx_seq fun K4 k4 => ?_
  refine sx_seq fun K5 k5 => sx_region ?_
  refine sm rfl rfl rfl rfl ?_
  refine sx_pure rfl rfl rfl (px_len rfl Tryd.underlying22 hva0) ?_
  refine sm rfl rfl rfl rfl ?_
  refine sx_pure rfl rfl rfl (px_len rfl Tryd.underlying22 hvb0) ?_
  refine sx_pure rfl rfl rfl (px_lt rfl rfl) ?_
  refine wl_nil (q_n (k5 _ _ ?_))
  refine sx_condP rfl (fun h77 => ?_) (fun h77 => ?_)
  ·
   refine sx_seq fun K6 k6 => sx_region ?_
   refine sa rfl rfl rfl rfl ?_
   refine wl_nil (q_n (k6 _ _ ?_))
   refine sx_retc ?_
   refine q_r (q_r (sx_ret1 Tryd.results120 rfl ?_))
   exact ⟨iEq (cmpL_short (by omega)).symm, (Chg.refl 0 0 _)⟩
  ·
   refine sx_skip ?_
   refine q_n (k4 _ _ ?_)
   refine sx_seq fun K7 k7 => sx_region ?_
   refine sa rfl rfl rfl rfl ?_
   refine wl_nil (q_n (k7 _ _ ?_))
   refine sx_retc ?_
   refine q_r (sx_ret1 Tryd.results120 rfl ?_)
   exact ⟨iEq (cmpL_long (by omega)).symm, (Chg.refl 0 0 _)⟩
 ·
  refine sx_skip ?_
  refine q_n (k2 _ _ ?_)
  refine sx_seq fun K8 k8 => ?_
  refine sx_seq fun K9 k9 => sx_region ?_
  refine sm rfl rfl rfl rfl ?_
  refine sx_pure rfl rfl rfl (px_len rfl Tryd.underlying22 hva0) ?_
  refine sx_pure rfl rfl rfl (px_sub rfl rfl (by omega)) ?_
  refine sa rfl rfl rfl rfl ?_
  refine wl_nil (q_n (k9 _ _ ?_))
  refine sx_block ?_
  have e00 : zs.length = ys.length := by omega
  have he0 : zs.drop zs.length = ys.drop zs.length := by rw [zs0, e00, ys0]
  refine sx_loop (fun mm aa w' => ∃ (k : Nat), Agr 41 [(0, va), (1, vb), (5, .int .i64 (↑k - 1))] aa ∧ Chg 0 0 w w' ∧ (mm = k) ∧ (k ≤ zs.length) ∧ (zs.drop k = ys.drop k)) (_) (fun a ha => ⟨zs.length, ha.sub (Sub.cons (t := 0) rfl (.cons (t := 1) rfl (.cons (t := 5) (look_int (t := 5) rfl (by first | omega | simp)) (.nil)))), Chg.refl _ _ _, rfl, by omega, he0⟩) ?_
  rintro mm aa wl10 ⟨k, hAwl10, cwl10, hm, hk, he⟩
  refine (show cw Tryd.prog 41 _ _ _ wl10 from ?_) aa hAwl10
  clear hAwl10
  have zwl10 := cwl10.size
  have hl : zs.length = ys.length := by omega
  refine sx_seq fun K11 k11 => ?_
  refine sx_seq fun K12 k12 => sx_region ?_
  refine sm rfl rfl rfl rfl ?_
  refine sx_pure rfl rfl rfl (px_ge rfl rfl) ?_
  refine wl_nil (q_n (k12 _ _ ?_))
  refine sx_condP rfl (fun h82 => ?_) (fun h82 => ?_)
  ·
   refine sx_skip ?_
   refine q_n (k11 _ _ ?_)
   refine sx_seq fun K13 k13 => ?_
   refine sx_block ?_
   refine sx_seq fun K14 k14 => ?_
   have f15 := hva0.ext cwl10
   have f16 := hvb0.ext cwl10
   refine dx_region (fun w' => Chg 0 0 wl10 w') (by kernel_rfl) (Chg.zero (Chg.drew _)) ?_
   have d17 := Chg.drew wl10
   have s17 : Chg 0 0 wl10 (World.drew wl10) := Chg.zero (Chg.drew _)
   have y17 : (World.drew wl10).heap.size = wl10.heap.size := rfl
   generalize World.drew wl10 = w17 at *
   have zw17 := d17.size
   refine dx_take 0 rfl rfl rfl rfl (by kernel_rfl) (by kernel_rfl) (by kernel_rfl) s17 (fun _ hS => px_move rfl) ?_
   refine dx_take 1 rfl rfl rfl rfl (by kernel_rfl) (by kernel_rfl) (by kernel_rfl) s17 (fun _ hS => px_move rfl) ?_
   refine dx_take 2 rfl rfl rfl rfl (by kernel_rfl) (by kernel_rfl) (by kernel_rfl) s17 (fun _ hS => px_index1 (j := (k - 1)) rfl rfl (by omega) Tryd.underlying22 Tryd.sizeOf3 ((f15).chg hS (by omega)) (by omega)) ?_
   refine dx_take 3 rfl rfl rfl rfl (by kernel_rfl) (by kernel_rfl) (by kernel_rfl) s17 (fun _ hS => px_load rfl (((f15).chg hS (by omega)).load1 (at_int (by omega)) Tryd.isAgg3)) ?_
   refine dx_take 4 rfl rfl rfl rfl (by kernel_rfl) (by kernel_rfl) (by kernel_rfl) s17 (fun _ hS => px_move rfl) ?_
   refine dx_take 5 rfl rfl rfl rfl (by kernel_rfl) (by kernel_rfl) (by kernel_rfl) s17 (fun _ hS => px_move rfl) ?_
   refine dx_take 6 rfl rfl rfl rfl (by kernel_rfl) (by kernel_rfl) (by kernel_rfl) s17 (fun _ hS => px_index1 (j := (k - 1)) rfl rfl (by omega) Tryd.underlying22 Tryd.sizeOf3 ((f16).chg hS (by omega)) (by omega)) ?_
   refine dx_take 7 rfl rfl rfl rfl (by kernel_rfl) (by kernel_rfl) (by kernel_rfl) s17 (fun _ hS => px_load rfl (((f16).chg hS (by omega)).load1 (at_int (by omega)) Tryd.isAgg3)) ?_
   refine dx_take 8 rfl rfl rfl rfl (by kernel_rfl) (by kernel_rfl) (by kernel_rfl) s17 (fun _ hS => px_ne rfl rfl) ?_
   refine dx_done (by kernel_rfl) ?_
   refine q_n (k14 _ _ ?_)
   refine sx_condP rfl (fun h83 => ?_) (fun h83 => ?_)
   ·
    refine sx_seq fun K18 k18 => ?_
    refine sx_seq fun K19 k19 => ?_
    have f20 := f15.ext d17
    have f21 := f16.ext d17
    refine dx_region (fun w' => Chg 0 0 w17 w') (by kernel_rfl) (Chg.zero (Chg.drew _)) ?_
    have d22 := Chg.drew w17
    have s22 : Chg 0 0 w17 (World.drew w17) := Chg.zero (Chg.drew _)
    have y22 : (World.drew w17).heap.size = w17.heap.size := rfl
    generalize World.drew w17 = w22 at *
    have zw22 := d22.size
    refine dx_take 0 rfl rfl rfl rfl (by kernel_rfl) (by kernel_rfl) (by kernel_rfl) s22 (fun _ hS => px_move rfl) ?_
    refine dx_take 1 rfl rfl rfl rfl (by kernel_rfl) (by kernel_rfl) (by kernel_rfl) s22 (fun _ hS => px_move rfl) ?_
    refine dx_take 2 rfl rfl rfl rfl (by kernel_rfl) (by kernel_rfl) (by kernel_rfl) s22 (fun _ hS => px_index1 (j := (k - 1)) rfl rfl (by omega) Tryd.underlying22 Tryd.sizeOf3 ((f20).chg hS (by omega)) (by omega)) ?_
    refine dx_take 3 rfl rfl rfl rfl (by kernel_rfl) (by kernel_rfl) (by kernel_rfl) s22 (fun _ hS => px_load rfl (((f20).chg hS (by omega)).load1 (at_int (by omega)) Tryd.isAgg3)) ?_
    refine dx_take 4 rfl rfl rfl rfl (by kernel_rfl) (by kernel_rfl) (by kernel_rfl) s22 (fun _ hS => px_move rfl) ?_
    refine dx_take 5 rfl rfl rfl rfl (by kernel_rfl) (by kernel_rfl) (by kernel_rfl) s22 (fun _ hS => px_move rfl) ?_
    refine dx_take 6 rfl rfl rfl rfl (by kernel_rfl) (by kernel_rfl) (by kernel_rfl) s22 (fun _ hS => px_index1 (j := (k - 1)) rfl rfl (by omega) Tryd.underlying22 Tryd.sizeOf3 ((f21).chg hS (by omega)) (by omega)) ?_
    refine dx_take 7 rfl rfl rfl rfl (by kernel_rfl) (by kernel_rfl) (by kernel_rfl) s22 (fun _ hS => px_load rfl (((f21).chg hS (by omega)).load1 (at_int (by omega)) Tryd.isAgg3)) ?_
    refine dx_take 8 rfl rfl rfl rfl (by kernel_rfl) (by kernel_rfl) (by kernel_rfl) s22 (fun _ hS => px_lt rfl rfl) ?_
    refine dx_done (by kernel_rfl) ?_
    refine q_n (k19 _ _ ?_)
    refine sx_sub (Sub.cons (t := 0) rfl (.cons (t := 1) rfl (.cons (t := 5) rfl (.cons (t := 40) rfl (.nil))))) ?_
    refine sx_condP rfl (fun h84 => ?_) (fun h84 => ?_)
    ·
     refine sx_seq fun K23 k23 => sx_region ?_
     refine sa rfl rfl rfl rfl ?_
     refine wl_nil (q_n (k23 _ _ ?_))
     refine sx_retc ?_
     refine q_r (q_br (q_r (q_r (q_br (q_r (sx_ret1 Tryd.results120 rfl ?_))))))
     have hlt := cmpL_lt hl (k := k - 1) (by omega) (by rw [Nat.sub_add_cancel (by omega)]; exact he) (h84)
     exact ⟨iEq hlt.symm, ((cwl10.t d17).t d22)⟩
    ·
     refine sx_skip ?_
     refine q_n (k18 _ _ ?_)
     refine sx_seq fun K24 k24 => sx_region ?_
     refine sa rfl rfl rfl rfl ?_
     refine wl_nil (q_n (k24 _ _ ?_))
     refine sx_retc ?_
     refine q_br (q_r (q_r (q_br (q_r (sx_ret1 Tryd.results120 rfl ?_)))))
     have hlt := cmpL_gt hl (k := k - 1) (by omega) (by rw [Nat.sub_add_cancel (by omega)]; exact he) (by omega)
     exact ⟨iEq hlt.symm, ((cwl10.t d17).t d22)⟩
   ·
    refine sx_skip ?_
    refine q_bn (q_n (k13 _ _ ?_))
    refine sx_region ?_
    refine sm rfl rfl rfl rfl ?_
    refine sx_pure rfl rfl rfl (px_sub rfl rfl (by omega)) ?_
    refine sa rfl rfl rfl rfl ?_
    refine wl_nil ?_
    exact fun a ha => ⟨_, by omega, (k - 1), ha.sub (Sub.cons (t := 0) rfl (.cons (t := 1) rfl (.cons (t := 5) (look_int (t := 5) rfl (by first | omega | simp)) (.nil)))), (cwl10.t d17), rfl, by omega, drop_succ_eq (by omega) (by omega) (by rw [Nat.sub_add_cancel (by omega)]; exact he) (by omega)⟩
  ·
   refine sx_exit ?_
   refine q_e (q_e (q_bx (q_n (k8 _ _ ?_))))
   refine sx_seq fun K25 k25 => sx_region ?_
   refine sa rfl rfl rfl rfl ?_
   refine wl_nil (q_n (k25 _ _ ?_))
   refine sx_retc ?_
   refine sx_ret1 Tryd.results120 rfl ?_
   have e1 : k = 0 := by omega
   subst e1
   have e2 : zs = ys := by simpa using he
   subst e2
   exact ⟨iEq (cmpL_self zs).symm, cwl10⟩

theorem c_natSub {w : World} {va : Value} {lva uva : Nat} {m : Nat} {vb : Value} {lvb uvb : Nat} {n : Nat} (hva : Sl w lva uva va (dg m)) (hvb : Sl w lvb uvb vb (dg n)) (hbm : (dg m).length ≤ 1000) (hbn : (dg n).length ≤ 1000) (hle : n ≤ m) :
  Ret Tryd.prog 121 [va, vb] w fun v w' => ∃ s, v = s ∧ OwnI w' w.heap.size w'.heap.size s intT (dg (m - n)) ∧ Chg 0 0 w w' := by
 have hva0 := hva.fit
 have hvb0 := hvb.fit
 refine sx_enter Tryd.func121 rfl Tryd.ntmps121 (Nat.le_of_ble_eq_true rfl) ?_
 refine sx_seq fun K1 k1 => sx_region ?_
 refine sa rfl rfl rfl rfl ?_
 refine wl_nil (q_n (k1 _ _ ?_))
 refine sx_seq fun K2 k2 => sx_region ?_
 refine sm rfl rfl rfl rfl ?_
 refine sx_pure rfl rfl rfl (px_len rfl Tryd.underlying22 hva0) ?_
 refine sx_make (c := (dg m).length) rfl xelt22 (rfl) (rfl) (by omega) (by unfold maxLen; omega) (fun s3 ws3 fs3 cs3 ls3 => ?_)
 have ns3 := fs3.made
 have zws3 := cs3.size
 refine sa rfl rfl rfl rfl ?_
 refine wl_nil (q_n (k2 _ _ ?_))
 refine sx_seq fun K4 k4 => sx_region ?_
 refine sa rfl rfl rfl rfl ?_
 refine wl_nil (q_n (k4 _ _ ?_))
 refine sx_seq fun K5 k5 => ?_
 refine sx_seq fun K6 k6 => sx_region ?_
 refine sm rfl rfl rfl rfl ?_
 have f7 := hva0.ext cs3
 refine sx_pure rfl rfl rfl (px_len rfl Tryd.underlying22 f7) ?_
 refine sm rfl rfl rfl rfl ?_
 refine wl_nil (q_n (k6 _ _ ?_))
 refine sx_block ?_
 refine sx_loop (fun mm aa w' => ∃ (k : Nat) (os : List Int) (c : Nat), Agr 44 [(0, va), (1, vb), (5, s3), (6, .int .i64 ((c : Nat) : Int)), (13, .int .i64 (↑(dg m).length)), (14, .int .i64 ↑k)] aa ∧ Chg w.heap.size ws3.heap.size ws3 w' ∧ Own w' w.heap.size ws3.heap.size s3 intT os.length 1 (os.map (Value.int .i64)) ∧ (mm = (dg m).length - k) ∧ (os.length = (dg m).length) ∧ (Lm os) ∧ (c ≤ 1) ∧ (k ≤ (dg m).length) ∧ (vl ((dg m).take k) + Bs ^ k * c = vl (os.take k) + vl ((dg n).take k))) (_) (fun a ha => ⟨0, List.replicate (dg m).length 0, 0, ha.sub (Sub.cons (t := 0) rfl (.cons (t := 1) rfl (.cons (t := 5) rfl (.cons (t := 6) (look_int (t := 6) rfl (by first | omega | simp)) (.cons (t := 13) (look_int (t := 13) rfl (by first | omega | simp)) (.cons (t := 14) (look_int (t := 14) rfl (by first | omega | simp)) (.nil))))))), Chg.refl _ _ _, (ns3.mono (by omega) (by omega)), rfl, by simp, Lm.replicate _, by omega, by omega, by simp [vl]⟩) ?_
 rintro mm aa wl8 ⟨k, os, c, hAwl8, cwl8, hs_s3, hm, hos, hlm, hc, hk, hv⟩
 refine (show cw Tryd.prog 44 _ _ _ wl8 from ?_) aa hAwl8
 clear hAwl8
 have zwl8 := cwl8.size
 have am := (Lm_dg m).getD k
 have bn := (Lm_dg n).getD k
 refine sx_seq fun K9 k9 => sx_region ?_
 refine sx_pure rfl rfl rfl (px_lt rfl rfl) ?_
 refine wl_nil (q_n (k9 _ _ ?_))
 refine sx_seq fun K10 k10 => ?_
 refine sx_condP rfl (fun h122 => ?_) (fun h122 => ?_)
 ·
  refine sx_skip ?_
  refine q_n (k10 _ _ ?_)
  refine sx_seq fun K11 k11 => ?_
  refine sx_block ?_
  refine sx_seq fun K12 k12 => sx_region ?_
  refine sm rfl rfl rfl rfl ?_
  refine sa rfl rfl rfl rfl ?_
  refine wl_nil (q_n (k12 _ _ ?_))
  refine sx_seq fun K13 k13 => sx_region ?_
  refine sm rfl rfl rfl rfl ?_
  refine sm rfl rfl rfl rfl ?_
  have f14 := f7.chg cwl8 (by omega)
  refine sx_pure rfl rfl rfl (px_index1 (j := k) rfl rfl (by omega) Tryd.underlying22 Tryd.sizeOf3 f14 (by omega)) ?_
  refine sx_pure rfl rfl rfl (px_load rfl (f14.load1 (at_int (by omega)) Tryd.isAgg3)) ?_
  refine sm rfl rfl rfl rfl ?_
  refine sx_pure rfl rfl rfl (px_sub rfl rfl (by omega)) ?_
  refine sa rfl rfl rfl rfl ?_
  refine wl_nil (q_n (k13 _ _ ?_))
  refine sx_sub (Sub.cons (t := 0) rfl (.cons (t := 1) rfl (.cons (t := 5) rfl (.cons (t := 6) rfl (.cons (t := 7) rfl (.cons (t := 8) rfl (.cons (t := 13) rfl (.cons (t := 14) rfl (.nil))))))))) ?_
  refine sx_seq fun K15 k15 => ?_
  refine sx_seq fun K16 k16 => sx_region ?_
  refine sm rfl rfl rfl rfl ?_
  refine sm rfl rfl rfl rfl ?_
  have f17 := hvb0.ext cs3
  have f18 := f17.chg cwl8 (by omega)
  refine sx_pure rfl rfl rfl (px_len rfl Tryd.underlying22 f18) ?_
  refine sx_pure rfl rfl rfl (px_lt rfl rfl) ?_
  refine wl_nil (q_n (k16 _ _ ?_))
  refine sx_condP rfl (fun h124 => ?_) (fun h124 => ?_)
  ·
   refine sx_region ?_
   refine sm rfl rfl rfl rfl ?_
   refine sm rfl rfl rfl rfl ?_
   refine sm rfl rfl rfl rfl ?_
   refine sx_pure rfl rfl rfl (px_index1 (j := k) rfl rfl (by omega) Tryd.underlying22 Tryd.sizeOf3 f18 (by omega)) ?_
   refine sx_pure rfl rfl rfl (px_load rfl (f18.load1 (at_int (by omega)) Tryd.isAgg3)) ?_
   refine sx_pure rfl rfl rfl (px_sub rfl rfl (by omega)) ?_
   refine sa rfl rfl rfl rfl ?_
   refine wl_nil (q_n (k15 _ _ ?_))
   refine sx_sub (Sub.cons (t := 0) rfl (.cons (t := 1) rfl (.cons (t := 5) rfl (.cons (t := 6) rfl (.cons (t := 7) rfl (.cons (t := 8) rfl (.cons (t := 13) rfl (.cons (t := 14) rfl (.nil))))))))) ?_
   refine sx_seq fun K19 k19 => sx_region ?_
   refine sa rfl rfl rfl rfl ?_
   refine wl_nil (q_n (k19 _ _ ?_))
   refine sx_seq fun K20 k20 => ?_
   refine sx_seq fun K21 k21 => sx_region ?_
   refine sm rfl rfl rfl rfl ?_
   refine sx_pure rfl rfl rfl (px_lt rfl rfl) ?_
   refine wl_nil (q_n (k21 _ _ ?_))
   refine sx_condP rfl (fun h128 => ?_) (fun h128 => ?_)
   ·
    refine sx_seq fun K22 k22 => sx_region ?_
    refine sm rfl rfl rfl rfl ?_
    refine sx_pure rfl rfl rfl (px_add rfl rfl (by omega)) ?_
    refine sa rfl rfl rfl rfl ?_
    refine wl_nil (q_n (k22 _ _ ?_))
    refine sx_region ?_
    refine sa rfl rfl rfl rfl ?_
    refine wl_nil (q_n (k20 _ _ ?_))
    refine sx_region ?_
    refine sm rfl rfl rfl rfl ?_
    refine sm rfl rfl rfl rfl ?_
    refine sm rfl rfl rfl rfl ?_
    refine sx_pure rfl rfl rfl (px_index1 (j := k) rfl rfl (by omega) Tryd.underlying22 Tryd.sizeOf3 hs_s3.sv (by omega)) ?_
    refine sx_storeO rfl rfl hs_s3 (by first | omega | (simp only [List.length_map]; omega)) Tryd.sizeOf3 rfl (fun w23 sw23 fw23 cw23 => ?_)
    have zw23 := cw23.size
    have nw23 := fw23.set
    refine wl_nil ?_
    refine q_bn (q_n (k11 _ _ ?_))
    refine sx_sub (Sub.cons (t := 0) rfl (.cons (t := 1) rfl (.cons (t := 5) rfl (.cons (t := 6) rfl (.cons (t := 13) rfl (.cons (t := 14) rfl (.nil))))))) ?_
    refine sx_region ?_
    refine sx_pure rfl rfl rfl (px_add rfl rfl (by omega)) ?_
    refine sm rfl rfl rfl rfl ?_
    refine wl_nil ?_
    have q24 := Chg.step (l := w.heap.size) (h := ws3.heap.size) cwl8 cw23 (by omega)
    have hs : ((dg m).getD k 0).toNat + Bs * 1 = ((dg n).getD k 0).toNat + c + ((((((dg m).getD k 0) - ((c : Nat) : Int)) - ((dg n).getD k 0)) + 1000000000) : Int).toNat := by simp only [Bs]; omega
    have hv2 : vl ((dg m).take (k + 1)) + Bs ^ (k + 1) * 1 = vl ((os.set k ((((((dg m).getD k 0) - ((c : Nat) : Int)) - ((dg n).getD k 0)) + 1000000000))).take (k + 1)) + vl ((dg n).take (k + 1)) := by
     rw [vl_take_set (by omega), vl_take_succ', vl_take_succ', Nat.pow_succ]
     exact sub_step hs hv
    exact fun a ha => ⟨_, by omega, (k + 1), ((os).set k (((((dg m).getD k 0) - ((c : Nat) : Int)) - ((dg n).getD k 0)) + 1000000000)), 1, ha.sub (Sub.cons (t := 0) rfl (.cons (t := 1) rfl (.cons (t := 5) rfl (.cons (t := 6) (look_int (t := 6) rfl (by first | omega | simp)) (.cons (t := 13) rfl (.cons (t := 14) (look_int (t := 14) rfl (by first | omega | simp)) (.nil))))))), q24, (nw23.mono (by omega) (by omega)), rfl, by simp [hos], hlm.set k (by omega) (by omega), by omega, by omega, hv2⟩
   ·
    refine sx_skip ?_
    refine q_n (k20 _ _ ?_)
    refine sx_region ?_
    refine sm rfl rfl rfl rfl ?_
    refine sm rfl rfl rfl rfl ?_
    refine sm rfl rfl rfl rfl ?_
    refine sx_pure rfl rfl rfl (px_index1 (j := k) rfl rfl (by omega) Tryd.underlying22 Tryd.sizeOf3 hs_s3.sv (by omega)) ?_
    refine sx_storeO rfl rfl hs_s3 (by first | omega | (simp only [List.length_map]; omega)) Tryd.sizeOf3 rfl (fun w25 sw25 fw25 cw25 => ?_)
    have zw25 := cw25.size
    have nw25 := fw25.set
    refine wl_nil ?_
    refine q_bn (q_n (k11 _ _ ?_))
    refine sx_region ?_
    refine sx_pure rfl rfl rfl (px_add rfl rfl (by omega)) ?_
    refine sm rfl rfl rfl rfl ?_
    refine wl_nil ?_
    have q26 := Chg.step (l := w.heap.size) (h := ws3.heap.size) cwl8 cw25 (by omega)
    have hs : ((dg m).getD k 0).toNat + Bs * 0 = ((dg n).getD k 0).toNat + c + (((((dg m).getD k 0) - ((c : Nat) : Int)) - ((dg n).getD k 0)) : Int).toNat := by simp only [Bs]; omega
    have hv2 : vl ((dg m).take (k + 1)) + Bs ^ (k + 1) * 0 = vl ((os.set k (((((dg m).getD k 0) - ((c : Nat) : Int)) - ((dg n).getD k 0)))).take (k + 1)) + vl ((dg n).take (k + 1)) := by
     rw [vl_take_set (by omega), vl_take_succ', vl_take_succ', Nat.pow_succ]
     exact sub_step hs hv
    exact fun a ha => ⟨_, by omega, (k + 1), ((os).set k ((((dg m).getD k 0) - ((c : Nat) : Int)) - ((dg n).getD k 0))), 0, ha.sub (Sub.cons (t := 0) rfl (.cons (t := 1) rfl (.cons (t := 5) rfl (.cons (t := 6) (look_int (t := 6) rfl (by first | omega | simp)) (.cons (t := 13) rfl (.cons (t := 14) (look_int (t := 14) rfl (by first | omega | simp)) (.nil))))))), q26, (nw25.mono (by omega) (by omega)), rfl, by simp [hos], hlm.set k (by omega) (by omega), by omega, by omega, hv2⟩
  ·
   have gn := getD_ge (zs := dg n) (k := k) (by omega)
   refine sx_skip ?_
   refine q_n (k15 _ _ ?_)
   refine sx_seq fun K27 k27 => sx_region ?_
   refine sa rfl rfl rfl rfl ?_
   refine wl_nil (q_n (k27 _ _ ?_))
   refine sx_seq fun K28 k28 => ?_
   refine sx_seq fun K29 k29 => sx_region ?_
   refine sm rfl rfl rfl rfl ?_
   refine sx_pure rfl rfl rfl (px_lt rfl rfl) ?_
   refine wl_nil (q_n (k29 _ _ ?_))
   refine sx_condP rfl (fun h128 => ?_) (fun h128 => ?_)
   ·
    refine sx_seq fun K30 k30 => sx_region ?_
    refine sm rfl rfl rfl rfl ?_
    refine sx_pure rfl rfl rfl (px_add rfl rfl (by omega)) ?_
    refine sa rfl rfl rfl rfl ?_
    refine wl_nil (q_n (k30 _ _ ?_))
    refine sx_sub (Sub.cons (t := 0) rfl (.cons (t := 1) rfl (.cons (t := 5) rfl (.cons (t := 6) rfl (.cons (t := 7) rfl (.cons (t := 8) rfl (.cons (t := 13) rfl (.cons (t := 14) rfl (.nil))))))))) ?_
    refine sx_region ?_
    refine sa rfl rfl rfl rfl ?_
    refine wl_nil (q_n (k28 _ _ ?_))
    refine sx_region ?_
    refine sm rfl rfl rfl rfl ?_
    refine sm rfl rfl rfl rfl ?_
    refine sm rfl rfl rfl rfl ?_
    refine sx_pure rfl rfl rfl (px_index1 (j := k) rfl rfl (by omega) Tryd.underlying22 Tryd.sizeOf3 hs_s3.sv (by omega)) ?_
    refine sx_storeO rfl rfl hs_s3 (by first | omega | (simp only [List.length_map]; omega)) Tryd.sizeOf3 rfl (fun w31 sw31 fw31 cw31 => ?_)
    have zw31 := cw31.size
    have nw31 := fw31.set
    refine wl_nil ?_
    refine q_bn (q_n (k11 _ _ ?_))
    refine sx_region ?_
    refine sx_pure rfl rfl rfl (px_add rfl rfl (by omega)) ?_
    refine sm rfl rfl rfl rfl ?_
    refine wl_nil ?_
    have q32 := Chg.step (l := w.heap.size) (h := ws3.heap.size) cwl8 cw31 (by omega)
    have hs : ((dg m).getD k 0).toNat + Bs * 1 = ((dg n).getD k 0).toNat + c + (((((dg m).getD k 0) - ((c : Nat) : Int)) + 1000000000) : Int).toNat := by simp only [Bs]; omega
    have hv2 : vl ((dg m).take (k + 1)) + Bs ^ (k + 1) * 1 = vl ((os.set k (((((dg m).getD k 0) - ((c : Nat) : Int)) + 1000000000))).take (k + 1)) + vl ((dg n).take (k + 1)) := by
     rw [vl_take_set (by omega), vl_take_succ', vl_take_succ', Nat.pow_succ]
     exact sub_step hs hv
    exact fun a ha => ⟨_, by omega, (k + 1), ((os).set k ((((dg m).getD k 0) - ((c : Nat) : Int)) + 1000000000)), 1, ha.sub (Sub.cons (t := 0) rfl (.cons (t := 1) rfl (.cons (t := 5) rfl (.cons (t := 6) (look_int (t := 6) rfl (by first | omega | simp)) (.cons (t := 13) rfl (.cons (t := 14) (look_int (t := 14) rfl (by first | omega | simp)) (.nil))))))), q32, (nw31.mono (by omega) (by omega)), rfl, by simp [hos], hlm.set k (by omega) (by omega), by omega, by omega, hv2⟩
   ·
    refine sx_skip ?_
    refine q_n (k28 _ _ ?_)
    refine sx_region ?_
    refine sm rfl rfl rfl rfl ?_
    refine sm rfl rfl rfl rfl ?_
    refine sm rfl rfl rfl rfl ?_
    refine sx_pure rfl rfl rfl (px_index1 (j := k) rfl rfl (by omega) Tryd.underlying22 Tryd.sizeOf3 hs_s3.sv (by omega)) ?_
    refine sx_storeO rfl rfl hs_s3 (by first | omega | (simp only [List.length_map]; omega)) Tryd.sizeOf3 rfl (fun w33 sw33 fw33 cw33 => ?_)
    have zw33 := cw33.size
    have nw33 := fw33.set
    refine wl_nil ?_
    refine q_bn (q_n (k11 _ _ ?_))
    refine sx_sub (Sub.cons (t := 0) rfl (.cons (t := 1) rfl (.cons (t := 5) rfl (.cons (t := 6) rfl (.cons (t := 13) rfl (.cons (t := 14) rfl (.nil))))))) ?_
    refine sx_region ?_
    refine sx_pure rfl rfl rfl (px_add rfl rfl (by omega)) ?_
    refine sm rfl rfl rfl rfl ?_
    refine wl_nil ?_
    have q34 := Chg.step (l := w.heap.size) (h := ws3.heap.size) cwl8 cw33 (by omega)
    have hs : ((dg m).getD k 0).toNat + Bs * 0 = ((dg n).getD k 0).toNat + c + ((((dg m).getD k 0) - ((c : Nat) : Int)) : Int).toNat := by simp only [Bs]; omega
    have hv2 : vl ((dg m).take (k + 1)) + Bs ^ (k + 1) * 0 = vl ((os.set k ((((dg m).getD k 0) - ((c : Nat) : Int)))).take (k + 1)) + vl ((dg n).take (k + 1)) := by
     rw [vl_take_set (by omega), vl_take_succ', vl_take_succ', Nat.pow_succ]
     exact sub_step hs hv
    exact fun a ha => ⟨_, by omega, (k + 1), ((os).set k (((dg m).getD k 0) - ((c : Nat) : Int))), 0, ha.sub (Sub.cons (t := 0) rfl (.cons (t := 1) rfl (.cons (t := 5) rfl (.cons (t := 6) (look_int (t := 6) rfl (by first | omega | simp)) (.cons (t := 13) rfl (.cons (t := 14) (look_int (t := 14) rfl (by first | omega | simp)) (.nil))))))), q34, (nw33.mono (by omega) (by omega)), rfl, by simp [hos], hlm.set k (by omega) (by omega), by omega, by omega, hv2⟩
 ·
  refine sx_exit ?_
  refine q_e (q_e (q_bx (q_n (k5 _ _ ?_))))
  refine sx_seq fun K35 k35 => ?_
  have ek : k = (dg m).length := by omega
  have hnm := len_le hle
  subst ek
  rw [List.take_length, vl_dg, vl_take_ge (show (dg n).length ≤ (dg m).length from hnm), vl_dg, ← hos, List.take_length] at hv
  have hend := sub_end hv hle (vl_lt hlm) hc
  have hvv := hend.2
  have hz := hlm
  refine sx_region ?_
  refine sm rfl rfl rfl rfl ?_
  refine sx_call rfl rfl Tryd.call126 (c_trim hs_s3 (by assumption) (by first | omega | (simp only [List.length_append, List.length_set, List.length_replicate, List.length_cons, List.length_nil] at *; omega))) (fun v36 w36 p36 => ?_)
  obtain ⟨s36, rfl, os_36, c36⟩ := p36
  have zw36 := c36.size
  refine sa rfl rfl rfl rfl ?_
  refine wl_nil (q_n (k35 _ _ ?_))
  refine sx_retc ?_
  refine sx_ret1 Tryd.results121 rfl ?_
  have hr := os_36
  rw [hvv] at hr
  have q37 := Chg.step (l := 0) (h := 0) (Chg.zero (l := 0) (h := 0) cs3) cwl8 (by omega)
  have q38 := Chg.step (l := 0) (h := 0) q37 c36 (by omega)
  exact ⟨_, rfl, hr.mono (by omega) (by omega), q38⟩

theorem c_intAdd {w : World} {va : Value} {lva uva : Nat} {x : Int} {vb : Value} {lvb uvb : Nat} {y : Int} (hva : Sl w lva uva va (dg x.natAbs)) (hvb : Sl w lvb uvb vb (dg y.natAbs)) (hbx : (dg x.natAbs).length ≤ 1000) (hby : (dg y.natAbs).length ≤ 1000) :
  Ret Tryd.prog 97 [.agg #[.bool (ng x), va], .agg #[.bool (ng y), vb]] w fun v w' => ∃ s, v = .agg #[.bool (ng (x + y)), s] ∧ OwnI w' w.heap.size w'.heap.size s intT (dg (x + y).natAbs) ∧ Chg 0 0 w w' := by
 have hva0 := hva.fit
 have hvb0 := hvb.fit
 have l2 := len_add x.natAbs y.natAbs
 have l3 := len_le (Nat.sub_le x.natAbs y.natAbs)
 have l4 := len_le (Nat.sub_le y.natAbs x.natAbs)
 refine sx_enter Tryd.func97 rfl Tryd.ntmps97 (Nat.le_of_ble_eq_true rfl) ?_
 refine sx_seq fun K1 k1 => sx_region ?_
 refine sx_box [.bool (ng x), va] rfl rfl rfl (fun b2 w3 eb2 sb2 fb2 cb2 => ?_)
 have zw3 := cb2.size
 refine sx_box [.bool (ng y), vb] rfl rfl rfl (fun b4 w5 eb4 sb4 fb4 cb4 => ?_)
 have zw5 := cb4.size
 refine sx_alloc [.bool false, (.slice none 0 0)] rfl Tryd.zeroValue29 rfl (fun b6 w7 eb6 sb6 fb6 cb6 => ?_)
 have zw7 := cb6.size
 refine wl_nil (q_n (k1 _ _ ?_))
 refine sx_seq fun K8 k8 => ?_
 refine sx_seq fun K9 k9 => sx_region ?_
 refine sx_pure rfl rfl rfl (px_field rfl xfld29x0) ?_
 have f10 := fb2.ext cb4
 have f11 := f10.ext cb6
 refine sx_pure rfl rfl rfl (px_load rfl (f11.load1 rfl Tryd.isAgg4)) ?_
 refine sx_pure rfl rfl rfl (px_field rfl xfld29x0) ?_
 have f12 := fb4.ext cb6
 refine sx_pure rfl rfl rfl (px_load rfl (f12.load1 rfl Tryd.isAgg4)) ?_
 refine sx_pure rfl rfl rfl (px_eqB Tryd.underlying4 rfl rfl) ?_
 refine wl_nil (q_n (k9 _ _ ?_))
 refine sx_condB rfl (fun h46 => ?_) (fun h46 => ?_)
 ·
  refine sx_seq fun K13 k13 => ?_
  have f14 := hva0.ext cb2
  have f15 := f14.ext cb4
  have f16 := f15.ext cb6
  have f17 := hvb0.ext cb2
  have f18 := f17.ext cb4
  have f19 := f18.ext cb6
  refine dx_region (fun w' => Chg b6 (b6 + 1) w7 w') (by kernel_rfl) (Chg.zero (Chg.drew _)) ?_
  have d20 := Chg.drew w7
  have s20 : Chg b6 (b6 + 1) w7 (World.drew w7) := Chg.zero (Chg.drew _)
  have y20 : (World.drew w7).heap.size = w7.heap.size := rfl
  generalize World.drew w7 = w20 at *
  have zw20 := d20.size
  refine dx_take 0 rfl rfl rfl rfl (by kernel_rfl) (by kernel_rfl) (by kernel_rfl) s20 (fun _ hS => px_field rfl xfld29x0) ?_
  refine dx_take 1 rfl rfl rfl rfl (by kernel_rfl) (by kernel_rfl) (by kernel_rfl) s20 (fun _ hS => px_load rfl ((f11.chg hS (by omega)).load1 rfl Tryd.isAgg4)) ?_
  refine dx_take 2 rfl rfl rfl rfl (by kernel_rfl) (by kernel_rfl) (by kernel_rfl) s20 (fun _ hS => px_field rfl xfld29x1) ?_
  refine dx_take 3 rfl rfl rfl rfl (by kernel_rfl) (by kernel_rfl) (by kernel_rfl) s20 (fun _ hS => px_load rfl ((f11.chg hS (by omega)).load1 rfl Tryd.isAgg22)) ?_
  refine dx_take 4 rfl rfl rfl rfl (by kernel_rfl) (by kernel_rfl) (by kernel_rfl) s20 (fun _ hS => px_field rfl xfld29x1) ?_
  refine dx_take 5 rfl rfl rfl rfl (by kernel_rfl) (by kernel_rfl) (by kernel_rfl) s20 (fun _ hS => px_load rfl ((f12.chg hS (by omega)).load1 rfl Tryd.isAgg22)) ?_
  refine dx_eff 6 rfl (by kernel_rfl) ?_
  have f21 := f16.ext d20
  have f22 := f19.ext d20
  refine sx_call rfl rfl Tryd.call119 (c_natAdd f21 f22 (by omega) (by omega)) (fun v23 w23 p23 => ?_)
  obtain ⟨s23, rfl, os_23, c23⟩ := p23
  have zw23 := c23.size
  have s24 : Chg b6 (b6 + 1) w7 w23 := (Chg.zero (l := b6) (h := (b6 + 1)) (d20.t c23))
  refine wl_nil ?_
  refine dx_next s24 ?_
  refine dx_eff 7 rfl (by kernel_rfl) ?_
  refine sx_call rfl rfl Tryd.call113 (c_signed os_23.sv (by omega)) (fun v25 w25 p25 => ?_)
  obtain ⟨rfl, c25⟩ := p25
  have zw25 := c25.size
  have s26 : Chg b6 (b6 + 1) w7 w25 := (Chg.zero (l := b6) (h := (b6 + 1)) ((d20.t c23).t c25))
  refine wl_nil ?_
  refine dx_next s26 ?_
  refine dx_eff 8 rfl (by kernel_rfl) ?_
  have f28 := fb6.ext d20
  have f29 := f28.ext c23
  have f30 := f29.ext c25
  have f31 := os_23.ext c25
  refine sx_store (vs := [.bool (nz (ng x) (dg (x.natAbs + y.natAbs))), v23]) rfl rfl f30 rfl Tryd.sizeOf29 (Nat.le_of_ble_eq_true rfl) (one_cons rfl (one_cons f31.one one_nil)) (fun w27 sw27 fw27 cw27 => ?_)
  have zw27 := cw27.size
  have gw27 : Blk w27 b6 [.bool (nz (ng x) (dg (x.natAbs + y.natAbs))), v23] 29 := fw27
  have q33 := Chg.step (l := b6) (h := (b6 + 1)) (Chg.zero (l := b6) (h := (b6 + 1)) ((d20.t c23).t c25)) cw27 (by omega)
  have s32 : Chg b6 (b6 + 1) w7 w27 := q33
  refine wl_nil ?_
  refine dx_next s32 ?_
  refine dx_done (by kernel_rfl) ?_
  refine q_n (k13 _ _ ?_)
  refine sx_sub (Sub.cons (t := 2) rfl (.cons (t := 3) rfl (.cons (t := 4) rfl (.nil)))) ?_
  refine sx_retc ?_
  refine q_r (sx_ret1 Tryd.results97 ⟨_, rfl, gw27.loadA (vs := [.bool (nz (ng x) (dg (x.natAbs + y.natAbs))), v23]) (look_lit rfl) Tryd.isAgg29 Tryd.sizeOf29⟩ ?_)
  have hh := add_sg h46
  rw [← hh.1, ← hh.2]
  have f34 := f31.chg cw27 (by omega)
  have q35 := Chg.step (l := 0) (h := 0) (Chg.zero (l := 0) (h := 0) (((((cb2.t cb4).t cb6).t d20).t c23).t c25)) cw27 (by omega)
  exact ⟨_, rfl, (Own.mono f34 (by omega) (by omega)), q35⟩
 ·
  refine sx_skip ?_
  refine q_n (k8 _ _ ?_)
  refine sx_seq fun K36 k36 => ?_
  refine sx_seq fun K37 k37 => sx_region ?_
  refine sx_pure rfl rfl rfl (px_field rfl xfld29x1) ?_
  refine sx_pure rfl rfl rfl (px_load rfl (f11.load1 rfl Tryd.isAgg22)) ?_
  refine sx_pure rfl rfl rfl (px_field rfl xfld29x1) ?_
  refine sx_pure rfl rfl rfl (px_load rfl (f12.load1 rfl Tryd.isAgg22)) ?_
  have f38 := hva0.ext cb2
  have f39 := f38.ext cb4
  have f40 := f39.ext cb6
  have f41 := hvb0.ext cb2
  have f42 := f41.ext cb4
  have f43 := f42.ext cb6
  refine sx_call rfl rfl Tryd.call120 (c_natCmp f40 f43 (by omega)) (fun v44 w44 p44 => ?_)
  obtain ⟨rfl, c44⟩ := p44
  have zw44 := c44.size
  refine sx_pure rfl rfl rfl (px_lt rfl rfl) ?_
  refine wl_nil (q_n (k37 _ _ ?_))
  refine sx_sub (Sub.cons (t := 2) rfl (.cons (t := 3) rfl (.cons (t := 4) rfl (.cons (t := 23) rfl (.nil))))) ?_
  refine sx_condP rfl (fun h49 => ?_) (fun h49 => ?_)
  ·
   rw [cmpL_dg] at h49
   have hlt := cmpN_neg.1 h49
   refine sx_region ?_
   have f45 := f12.ext c44
   refine sx_pure rfl rfl rfl (px_load rfl (f45.loadA (vs := [.bool (ng y), vb]) (look_lit rfl) Tryd.isAgg29 Tryd.sizeOf29)) ?_
   have f46 := f11.ext c44
   refine sx_pure rfl rfl rfl (px_load rfl (f46.loadA (vs := [.bool (ng x), va]) (look_lit rfl) Tryd.isAgg29 Tryd.sizeOf29)) ?_
   have f48 := f43.ext c44
   refine sx_store (vs := [.bool (ng y), vb]) rfl rfl f46 rfl Tryd.sizeOf29 (Nat.le_of_ble_eq_true rfl) (one_cons rfl (one_cons f48.one one_nil)) (fun w47 sw47 fw47 cw47 => ?_)
   have zw47 := cw47.size
   have gw47 : Blk w47 b2 [.bool (ng y), vb] 29 := fw47
   have f50 := f45.chg cw47 (by omega)
   have f51 := f40.ext c44
   have f52 := f51.chg cw47 (by omega)
   refine sx_store (vs := [.bool (ng x), va]) rfl rfl f50 rfl Tryd.sizeOf29 (Nat.le_of_ble_eq_true rfl) (one_cons rfl (one_cons f52.one one_nil)) (fun w49 sw49 fw49 cw49 => ?_)
   have zw49 := cw49.size
   have gw49 : Blk w49 b4 [.bool (ng x), va] 29 := fw49
   refine wl_nil (q_n (k36 _ _ ?_))
   refine sx_seq fun K53 k53 => ?_
   have f54 := gw47.chg cw49 (by omega)
   have f55 := f52.chg cw49 (by omega)
   have f56 := f48.chg cw47 (by omega)
   have f57 := f56.chg cw49 (by omega)
   refine dx_region (fun w' => Chg b6 (b6 + 1) w49 w') (by kernel_rfl) (Chg.zero (Chg.drew _)) ?_
   have d58 := Chg.drew w49
   have s58 : Chg b6 (b6 + 1) w49 (World.drew w49) := Chg.zero (Chg.drew _)
   have y58 : (World.drew w49).heap.size = w49.heap.size := rfl
   generalize World.drew w49 = w58 at *
   have zw58 := d58.size
   refine dx_take 0 rfl rfl rfl rfl (by kernel_rfl) (by kernel_rfl) (by kernel_rfl) s58 (fun _ hS => px_field rfl xfld29x0) ?_
   refine dx_take 1 rfl rfl rfl rfl (by kernel_rfl) (by kernel_rfl) (by kernel_rfl) s58 (fun _ hS => px_load rfl ((f54.chg hS (by omega)).load1 rfl Tryd.isAgg4)) ?_
   refine dx_take 2 rfl rfl rfl rfl (by kernel_rfl) (by kernel_rfl) (by kernel_rfl) s58 (fun _ hS => px_field rfl xfld29x1) ?_
   refine dx_take 3 rfl rfl rfl rfl (by kernel_rfl) (by kernel_rfl) (by kernel_rfl) s58 (fun _ hS => px_load rfl ((f54.chg hS (by omega)).load1 rfl Tryd.isAgg22)) ?_
   refine dx_take 4 rfl rfl rfl rfl (by kernel_rfl) (by kernel_rfl) (by kernel_rfl) s58 (fun _ hS => px_field rfl xfld29x1) ?_
   refine dx_take 5 rfl rfl rfl rfl (by kernel_rfl) (by kernel_rfl) (by kernel_rfl) s58 (fun _ hS => px_load rfl ((gw49.chg hS (by omega)).load1 rfl Tryd.isAgg22)) ?_
   refine dx_eff 6 rfl (by kernel_rfl) ?_
   have f59 := f57.ext d58
   have f60 := f55.ext d58
   refine sx_call rfl rfl Tryd.call121 (c_natSub f59 f60 (by omega) (by omega) (by omega)) (fun v61 w61 p61 => ?_)
   obtain ⟨s61, rfl, os_61, c61⟩ := p61
   have zw61 := c61.size
   have s62 : Chg b6 (b6 + 1) w49 w61 := (Chg.zero (l := b6) (h := (b6 + 1)) (d58.t c61))
   refine wl_nil ?_
   refine dx_next s62 ?_
   refine dx_eff 7 rfl (by kernel_rfl) ?_
   refine sx_call rfl rfl Tryd.call113 (c_signed os_61.sv (by omega)) (fun v63 w63 p63 => ?_)
   obtain ⟨rfl, c63⟩ := p63
   have zw63 := c63.size
   have s64 : Chg b6 (b6 + 1) w49 w63 := (Chg.zero (l := b6) (h := (b6 + 1)) ((d58.t c61).t c63))
   refine wl_nil ?_
   refine dx_next s64 ?_
   refine dx_eff 8 rfl (by kernel_rfl) ?_
   have f66 := fb6.ext c44
   have f67 := f66.chg cw47 (by omega)
   have f68 := f67.chg cw49 (by omega)
   have f69 := f68.ext d58
   have f70 := f69.ext c61
   have f71 := f70.ext c63
   have f72 := os_61.ext c63
   refine sx_store (vs := [.bool (nz (ng y) (dg (y.natAbs - x.natAbs))), v61]) rfl rfl f71 rfl Tryd.sizeOf29 (Nat.le_of_ble_eq_true rfl) (one_cons rfl (one_cons f72.one one_nil)) (fun w65 sw65 fw65 cw65 => ?_)
   have zw65 := cw65.size
   have gw65 : Blk w65 b6 [.bool (nz (ng y) (dg (y.natAbs - x.natAbs))), v61] 29 := fw65
   have q74 := Chg.step (l := b6) (h := (b6 + 1)) (Chg.zero (l := b6) (h := (b6 + 1)) ((d58.t c61).t c63)) cw65 (by omega)
   have s73 : Chg b6 (b6 + 1) w49 w65 := q74
   refine wl_nil ?_
   refine dx_next s73 ?_
   refine dx_done (by kernel_rfl) ?_
   refine q_n (k53 _ _ ?_)
   refine sx_retc ?_
   refine sx_ret1 Tryd.results97 ⟨_, rfl, gw65.loadA (vs := [.bool (nz (ng y) (dg (y.natAbs - x.natAbs))), v61]) (look_lit rfl) Tryd.isAgg29 Tryd.sizeOf29⟩ ?_
   have hh := (sub_sg2 h46 (by omega))
   rw [← hh.1, ← hh.2]
   have f75 := f72.chg cw65 (by omega)
   have q76 := Chg.step (l := 0) (h := 0) (Chg.zero (l := 0) (h := 0) (((cb2.t cb4).t cb6).t c44)) cw47 (by omega)
   have q77 := Chg.step (l := 0) (h := 0) q76 cw49 (by omega)
   have q78 := Chg.step (l := 0) (h := 0) q77 ((d58.t c61).t c63) (by omega)
   have q79 := Chg.step (l := 0) (h := 0) q78 cw65 (by omega)
   exact ⟨_, rfl, (Own.mono f75 (by omega) (by omega)), q79⟩
  ·
   rw [cmpL_dg] at h49
   have hge := cmpN_nonneg.1 (Int.not_lt.1 h49)
   refine sx_skip ?_
   refine q_n (k36 _ _ ?_)
   refine sx_seq fun K80 k80 => ?_
   have f81 := f11.ext c44
   have f82 := f12.ext c44
   have f83 := f40.ext c44
   have f84 := f43.ext c44
   refine dx_region (fun w' => Chg b6 (b6 + 1) w44 w') (by kernel_rfl) (Chg.zero (Chg.drew _)) ?_
   have d85 := Chg.drew w44
   have s85 : Chg b6 (b6 + 1) w44 (World.drew w44) := Chg.zero (Chg.drew _)
   have y85 : (World.drew w44).heap.size = w44.heap.size := rfl
   generalize World.drew w44 = w85 at *
   have zw85 := d85.size
   refine dx_take 0 rfl rfl rfl rfl (by kernel_rfl) (by kernel_rfl) (by kernel_rfl) s85 (fun _ hS => px_field rfl xfld29x0) ?_
   refine dx_take 1 rfl rfl rfl rfl (by kernel_rfl) (by kernel_rfl) (by kernel_rfl) s85 (fun _ hS => px_load rfl ((f81.chg hS (by omega)).load1 rfl Tryd.isAgg4)) ?_
   refine dx_take 2 rfl rfl rfl rfl (by kernel_rfl) (by kernel_rfl) (by kernel_rfl) s85 (fun _ hS => px_field rfl xfld29x1) ?_
   refine dx_take 3 rfl rfl rfl rfl (by kernel_rfl) (by kernel_rfl) (by kernel_rfl) s85 (fun _ hS => px_load rfl ((f81.chg hS (by omega)).load1 rfl Tryd.isAgg22)) ?_
   refine dx_take 4 rfl rfl rfl rfl (by kernel_rfl) (by kernel_rfl) (by kernel_rfl) s85 (fun _ hS => px_field rfl xfld29x1) ?_
   refine dx_take 5 rfl rfl rfl rfl (by kernel_rfl) (by kernel_rfl) (by kernel_rfl) s85 (fun _ hS => px_load rfl ((f82.chg hS (by omega)).load1 rfl Tryd.isAgg22)) ?_
   refine dx_eff 6 rfl (by kernel_rfl) ?_
   have f86 := f83.ext d85
   have f87 := f84.ext d85
   refine sx_call rfl rfl Tryd.call121 (c_natSub f86 f87 (by omega) (by omega) (by omega)) (fun v88 w88 p88 => ?_)
   obtain ⟨s88, rfl, os_88, c88⟩ := p88
   have zw88 := c88.size
   have s89 : Chg b6 (b6 + 1) w44 w88 := (Chg.zero (l := b6) (h := (b6 + 1)) (d85.t c88))
   refine wl_nil ?_
   refine dx_next s89 ?_
   refine dx_eff 7 rfl (by kernel_rfl) ?_
   refine sx_call rfl rfl Tryd.call113 (c_signed os_88.sv (by omega)) (fun v90 w90 p90 => ?_)
   obtain ⟨rfl, c90⟩ := p90
   have zw90 := c90.size
   have s91 : Chg b6 (b6 + 1) w44 w90 := (Chg.zero (l := b6) (h := (b6 + 1)) ((d85.t c88).t c90))
   refine wl_nil ?_
   refine dx_next s91 ?_
   refine dx_eff 8 rfl (by kernel_rfl) ?_
   have f93 := fb6.ext c44
   have f94 := f93.ext d85
   have f95 := f94.ext c88
   have f96 := f95.ext c90
   have f97 := os_88.ext c90
   refine sx_store (vs := [.bool (nz (ng x) (dg (x.natAbs - y.natAbs))), v88]) rfl rfl f96 rfl Tryd.sizeOf29 (Nat.le_of_ble_eq_true rfl) (one_cons rfl (one_cons f97.one one_nil)) (fun w92 sw92 fw92 cw92 => ?_)
   have zw92 := cw92.size
   have gw92 : Blk w92 b6 [.bool (nz (ng x) (dg (x.natAbs - y.natAbs))), v88] 29 := fw92
   have q99 := Chg.step (l := b6) (h := (b6 + 1)) (Chg.zero (l := b6) (h := (b6 + 1)) ((d85.t c88).t c90)) cw92 (by omega)
   have s98 : Chg b6 (b6 + 1) w44 w92 := q99
   refine wl_nil ?_
   refine dx_next s98 ?_
   refine dx_done (by kernel_rfl) ?_
   refine q_n (k80 _ _ ?_)
   refine sx_retc ?_
   refine sx_ret1 Tryd.results97 ⟨_, rfl, gw92.loadA (vs := [.bool (nz (ng x) (dg (x.natAbs - y.natAbs))), v88]) (look_lit rfl) Tryd.isAgg29 Tryd.sizeOf29⟩ ?_
   have hh := sub_sg h46 hge
   rw [← hh.1, ← hh.2]
   have f100 := f97.chg cw92 (by omega)
   have q101 := Chg.step (l := 0) (h := 0) (Chg.zero (l := 0) (h := 0) ((((((cb2.t cb4).t cb6).t c44).t d85).t c88).t c90)) cw92 (by omega)
   exact ⟨_, rfl, (Own.mono f100 (by omega) (by omega)), q101⟩

theorem c_iMoneyAdd {w : World} {c1 : ByteArray} {n1 : Bool} {v1 : Value} {lv1 uv1 : Nat} {z1 : List Int} {c2 : ByteArray} {n2 : Bool} {v2 : Value} {lv2 uv2 : Nat} {z2 : List Int} (hG0 : Glob w) (hv1 : Sl w lv1 uv1 v1 (z1)) (hv2 : Sl w lv2 uv2 v2 (z2)) (h63 : z1.length ≤ 4611686018427387904 ∧ z2.length ≤ 4611686018427387904) :
  Ret Tryd.prog 46 [.agg #[.string c1, .bool n1, v1], .agg #[.string c2, .bool n2, v2]] w fun v w' => ∃ s, v = .tuple #[.agg #[.string ((mBin gAdd c1 n1 z1 c2 n2 z2).1), .bool ((mBin gAdd c1 n1 z1 c2 n2 z2).2.1), s], .bool ((mBin gAdd c1 n1 z1 c2 n2 z2).2.2.2)] ∧ OwnI w' w.heap.size w'.heap.size s intT ((mBin gAdd c1 n1 z1 c2 n2 z2).2.2.1) ∧ ((mBin gAdd c1 n1 z1 c2 n2 z2).2.2.1.length ≤ 4) ∧ Chg 0 0 w w' := by
 have hv10 := hv1.fit
 have hv20 := hv2.fit
 refine sx_enter Tryd.func46 rfl Tryd.ntmps46 (Nat.le_of_ble_eq_true rfl) ?_
 refine sx_seq fun K1 k1 => sx_region ?_
 refine sx_box [.string c1, .bool n1, v1] rfl rfl rfl (fun b2 w3 eb2 sb2 fb2 cb2 => ?_)
 have zw3 := cb2.size
 refine sx_box [.string c2, .bool n2, v2] rfl rfl rfl (fun b4 w5 eb4 sb4 fb4 cb4 => ?_)
 have zw5 := cb4.size
 refine sx_alloc [.string (⟨#[]⟩), .bool false, (.slice none 0 0)] rfl Tryd.zeroValue31 rfl (fun b6 w7 eb6 sb6 fb6 cb6 => ?_)
 have zw7 := cb6.size
 refine sa rfl rfl rfl rfl ?_
 refine wl_nil (q_n (k1 _ _ ?_))
 refine sx_seq fun K8 k8 => ?_
 refine sx_seq fun K9 k9 => sx_region ?_
 have f10 := fb2.ext cb4
 have f11 := f10.ext cb6
 refine sx_pure rfl rfl rfl (px_load rfl (f11.loadA (vs := [.string c1, .bool n1, v1]) (look_lit rfl) Tryd.isAgg31 Tryd.sizeOf31)) ?_
 have f12 := fb4.ext cb6
 refine sx_pure rfl rfl rfl (px_load rfl (f12.loadA (vs := [.string c2, .bool n2, v2]) (look_lit rfl) Tryd.isAgg31 Tryd.sizeOf31)) ?_
 have f13 := hG0.ext cb2
 have f14 := f13.ext cb4
 have f15 := f14.ext cb6
 have f16 := hv10.ext cb2
 have f17 := f16.ext cb4
 have f18 := f17.ext cb6
 have f19 := hv20.ext cb2
 have f20 := f19.ext cb4
 have f21 := f20.ext cb6
 refine sx_call rfl rfl Tryd.call88 (c_alike f15 f18 f21 (by omega)) (fun v22 w22 p22 => ?_)
 obtain ⟨rfl, c22⟩ := p22
 have zw22 := c22.size
 refine sx_pure rfl rfl rfl (px_notP rfl) ?_
 refine wl_nil (q_n (k9 _ _ ?_))
 refine sx_condP rfl (fun h55 => ?_) (fun h55 => ?_)
 ·
  refine sx_seq fun K23 k23 => sx_region ?_
  refine sx_pure rfl rfl rfl (px_build rfl (xbld31x  _)) ?_
  have f25 := fb6.ext c22
  refine sx_store (vs := [.string (⟨#[]⟩), .bool false, (.slice none 0 0)]) rfl rfl f25 rfl Tryd.sizeOf31 (Nat.le_of_ble_eq_true rfl) (one_cons rfl (one_cons rfl (one_cons rfl one_nil))) (fun w24 sw24 fw24 cw24 => ?_)
  have zw24 := cw24.size
  have gw24 : Blk w24 b6 [.string (⟨#[]⟩), .bool false, (.slice none 0 0)] 31 := fw24
  refine sa rfl rfl rfl rfl ?_
  refine wl_nil (q_n (k23 _ _ ?_))
  refine sx_retc ?_
  refine q_r (sx_ret2 Tryd.results46 ⟨_, rfl, gw24.loadA (vs := [.string (⟨#[]⟩), .bool false, (.slice none 0 0)]) (look_lit rfl) Tryd.isAgg31 Tryd.sizeOf31⟩ rfl ?_)
  rw [mBin_no (by assumption)]
  have q26 := Chg.step (l := 0) (h := 0) (Chg.zero (l := 0) (h := 0) (((cb2.t cb4).t cb6).t c22)) cw24 (by omega)
  exact ⟨_, rfl, Own.nil _ _ _ _ _, by simp [noM], q26⟩
 ·
  have hA := Decidable.not_not.1 h55
  obtain ⟨x1, rfl, rfl, hx1⟩ := hA.1.int
  obtain ⟨x2, rfl, rfl, hx2⟩ := hA.2.1.int
  have la := len_addI x1 x2
  have lb := len_addI x1 (-x2)
  have lc : (dg (-x2).natAbs).length = (dg x2.natAbs).length := by rw [Int.natAbs_neg]
  refine sx_skip ?_
  refine q_n (k8 _ _ ?_)
  refine sx_seq fun K27 k27 => ?_
  have f28 := f15.ext c22
  have f29 := f11.ext c22
  have f30 := f12.ext c22
  have f31 := f18.ext c22
  have f32 := f21.ext c22
  refine dx_region (fun w' => Chg b6 (b6 + 1) w22 w') (by kernel_rfl) (Chg.zero (Chg.drew _)) ?_
  have d33 := Chg.drew w22
  have s33 : Chg b6 (b6 + 1) w22 (World.drew w22) := Chg.zero (Chg.drew _)
  have y33 : (World.drew w22).heap.size = w22.heap.size := rfl
  generalize World.drew w22 = w33 at *
  have zw33 := d33.size
  refine dx_take 0 rfl rfl rfl rfl (by kernel_rfl) (by kernel_rfl) (by kernel_rfl) s33 (fun _ hS => px_field rfl xfld31x0) ?_
  refine dx_take 1 rfl rfl rfl rfl (by kernel_rfl) (by kernel_rfl) (by kernel_rfl) s33 (fun _ hS => px_load rfl ((f29.chg hS (by omega)).load1 rfl Tryd.isAgg9)) ?_
  refine dx_take 2 rfl rfl rfl rfl (by kernel_rfl) (by kernel_rfl) (by kernel_rfl) s33 (fun _ hS => px_field rfl xfld31x1) ?_
  refine dx_take 3 rfl rfl rfl rfl (by kernel_rfl) (by kernel_rfl) (by kernel_rfl) s33 (fun _ hS => px_load rfl ((f29.chg hS (by omega)).loadA (vs := [.bool (ng x1), v1]) (look_lit rfl) Tryd.isAgg29 Tryd.sizeOf29)) ?_
  refine dx_take 4 rfl rfl rfl rfl (by kernel_rfl) (by kernel_rfl) (by kernel_rfl) s33 (fun _ hS => px_field rfl xfld31x1) ?_
  refine dx_take 5 rfl rfl rfl rfl (by kernel_rfl) (by kernel_rfl) (by kernel_rfl) s33 (fun _ hS => px_load rfl ((f30.chg hS (by omega)).loadA (vs := [.bool (ng x2), v2]) (look_lit rfl) Tryd.isAgg29 Tryd.sizeOf29)) ?_
  refine dx_eff 6 rfl (by kernel_rfl) ?_
  have f34 := f31.ext d33
  have f35 := f32.ext d33
  refine sx_call rfl rfl Tryd.call97 (c_intAdd f34 f35 (by omega) (by omega)) (fun v36 w36 p36 => ?_)
  obtain ⟨s36, rfl, os_36, c36⟩ := p36
  have zw36 := c36.size
  have s37 : Chg b6 (b6 + 1) w22 w36 := (Chg.zero (l := b6) (h := (b6 + 1)) (d33.t c36))
  refine wl_nil ?_
  refine dx_next s37 ?_
  refine dx_eff 7 rfl (by kernel_rfl) ?_
  have f38 := f28.ext d33
  have f39 := f38.ext c36
  refine sx_call rfl rfl Tryd.call75 (c_moneyOf f39 os_36 (by omega) (by omega)) (fun v40 w40 p40 => ?_)
  obtain ⟨s40, rfl, os_40, c40⟩ := p40
  have zw40 := c40.size
  have s41 : Chg b6 (b6 + 1) w22 w40 := (Chg.zero (l := b6) (h := (b6 + 1)) ((d33.t c36).t c40))
  refine wl_nil ?_
  refine dx_next s41 ?_
  refine dx_take 8 rfl rfl rfl rfl (by kernel_rfl) (by kernel_rfl) (by kernel_rfl) s41 (fun _ hS => px_extract (vs := [.agg #[.string ((mR c1 (x1 + x2)).1), .bool ((mR c1 (x1 + x2)).2.1), s40], .bool ((mR c1 (x1 + x2)).2.2.2)]) rfl rfl) ?_
  refine dx_take 9 rfl rfl rfl rfl (by kernel_rfl) (by kernel_rfl) (by kernel_rfl) s41 (fun _ hS => px_extract (vs := [.agg #[.string ((mR c1 (x1 + x2)).1), .bool ((mR c1 (x1 + x2)).2.1), s40], .bool ((mR c1 (x1 + x2)).2.2.2)]) rfl rfl) ?_
  refine dx_eff 10 rfl (by kernel_rfl) ?_
  have f43 := fb6.ext c22
  have f44 := f43.ext d33
  have f45 := f44.ext c36
  have f46 := f45.ext c40
  refine sx_store (vs := [.string ((mR c1 (x1 + x2)).1), .bool ((mR c1 (x1 + x2)).2.1), s40]) rfl rfl f46 rfl Tryd.sizeOf31 (Nat.le_of_ble_eq_true rfl) (one_cons rfl (one_cons rfl (one_cons os_40.one one_nil))) (fun w42 sw42 fw42 cw42 => ?_)
  have zw42 := cw42.size
  have gw42 : Blk w42 b6 [.string ((mR c1 (x1 + x2)).1), .bool ((mR c1 (x1 + x2)).2.1), s40] 31 := fw42
  have q48 := Chg.step (l := b6) (h := (b6 + 1)) (Chg.zero (l := b6) (h := (b6 + 1)) ((d33.t c36).t c40)) cw42 (by omega)
  have s47 : Chg b6 (b6 + 1) w22 w42 := q48
  refine wl_nil ?_
  refine dx_next s47 ?_
  refine dx_take 11 rfl rfl rfl rfl (by kernel_rfl) (by kernel_rfl) (by kernel_rfl) s47 (fun _ hS => px_assign rfl) ?_
  refine dx_done (by kernel_rfl) ?_
  refine q_n (k27 _ _ ?_)
  refine sx_sub (Sub.cons (t := 4) rfl (.cons (t := 5) rfl (.nil))) ?_
  refine sx_retc ?_
  refine sx_ret2 Tryd.results46 ⟨_, rfl, gw42.loadA (vs := [.string ((mR c1 (x1 + x2)).1), .bool ((mR c1 (x1 + x2)).2.1), s40]) (look_lit rfl) Tryd.isAgg31 Tryd.sizeOf31⟩ rfl ?_
  rw [mBin_ok hA]
  have q49 := Chg.step (l := 0) (h := 0) (Chg.zero (l := 0) (h := 0) ((((((cb2.t cb4).t cb6).t c22).t d33).t c36).t c40)) cw42 (by omega)
  have f50 := os_40.chg cw42 (by omega)
  exact ⟨_, rfl, (Own.mono f50 (by omega) (by omega)), mR_len, q49⟩

end Go.Proofs.YtomfgkfpihemlaaDoor
