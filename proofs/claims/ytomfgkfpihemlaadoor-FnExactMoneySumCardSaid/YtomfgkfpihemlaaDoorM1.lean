/- Contracts of functions of the program: what each call returns, and that it changes nothing that was. Conditions: as each says. -/
import Derived.Test.YtomfgkfpihemlaaDoorTy
import Derived.Test.YtomfgkfpihemlaaDoorNatJ
import Derived.Test.YtomfgkfpihemlaaDoorNatL
import Derived.Test.YtomfgkfpihemlaaDoorSxD
import Derived.Test.YtomfgkfpihemlaaDoorPair
import Derived.Test.YtomfgkfpihemlaaDoorNatQ
import Derived.Test.YtomfgkfpihemlaaDoorSxP
import Derived.Test.YtomfgkfpihemlaaDoorM0
set_option linter.unusedVariables false
set_option linter.unusedSimpArgs false
namespace Go.Proofs.YtomfgkfpihemlaaDoor
open Go Go.RowKit
set_option maxRecDepth 100000
set_option maxHeartbeats 1000000
theorem c_natAdd {w : World} {va : Value} {lva uva : Nat} {m : Nat} {vb : Value} {lvb uvb : Nat} {n : Nat} (hva : Sl w lva uva va (dg m)) (hvb : Sl w lvb uvb vb (dg n)) (hbm : (dg m).length ≤ 1000) (hbn : (dg n).length ≤ 1000) :
  Ret Tryd.prog 119 [va, vb] w fun v w' => ∃ s, v = s ∧ OwnI w' w.heap.size w'.heap.size s intT (dg (m + n)) ∧ Chg 0 0 w w' := by
 have hva0 := hva.fit
 have hvb0 := hvb.fit
 refine sx_enter Tryd.func119 rfl Tryd.ntmps119 (nbl rfl) ?_
 refine sx_seq fun K1 k1 => sx_region ?_
 refine av rfl rfl (wl_nil (q_n (k1 _ _ ?_)))
 refine sx_seq fun K2 k2 => sx_region ?_
 refine mv rfl rfl (sp rfl (px_len rfl Tryd.underlying22 hva0) ?_)
 refine mv rfl rfl (sp rfl (px_len rfl Tryd.underlying22 hvb0) ?_)
 refine sp rfl (px_max rfl rfl) ?_
 refine sp rfl (px_add rfl rfl (by omega)) ?_
 refine sx_make0 (c := max (dg m).length (dg n).length + 1) rfl xelt22 rfl (look_int rfl (by omega)) (by omega) (by unfold maxLen; omega) (fun s3 ws3 fs3 cs3 ls3 => ?_)
 have zws3 := cs3.size
 refine av rfl rfl (wl_nil (q_n (k2 _ _ ?_)))
 refine sx_seq fun K4 k4 => sx_region ?_
 refine av rfl rfl (wl_nil (q_n (k4 _ _ ?_)))
 refine sx_seq fun K5 k5 => ?_
 refine sx_seq fun K6 k6 => sx_region ?_
 refine av rfl rfl (wl_nil (q_n (k6 _ _ ?_)))
 refine sx_block ?_
 refine sx_loop (fun mm aa w' => ∃ (k : Nat) (s : Value) (os : List Int) (c : Nat), Agr 56 [(0, va), (1, vb), (5, s), (6, .int .i64 ((c : Nat) : Int)), (7, .int .i64 ↑k)] aa ∧ Chg w.heap.size ws3.heap.size ws3 w' ∧ Own w' w.heap.size w'.heap.size s intT os.length 1 (os.map (Value.int .i64)) ∧ (mm = max (dg m).length (dg n).length + 1 - k) ∧ (os.length = k) ∧ (Lm os) ∧ (c ≤ 1) ∧ (k ≤ max (dg m).length (dg n).length) ∧ (vl os + Bs ^ k * c = vl ((dg m).take k) + vl ((dg n).take k))) (_) (fun a ha => ⟨0, s3, [], 0, ha.sub (Sub.c 0 rfl (.c 1 rfl (.c 5 rfl (.c 6 (look_int (t := 6) rfl (by first | omega | simp)) (.c 7 (look_int (t := 7) rfl (by first | omega | simp)) .nil))))), Chg.refl _ _ _, (fs3.mono (by omega) (by omega)), rfl, rfl, Lm.nil, by omega, by omega, by simp [vl]⟩) ?_
 rintro mm aa wl7 ⟨k, s, os, c, hAwl7, cwl7, hs_s, hm, hos, hlm, hc, hk, hv⟩
 refine (show cw Tryd.prog 56 _ _ _ wl7 from ?_) aa hAwl7
 clear hAwl7
 have zwl7 := cwl7.size
 have am := (Lm_dg m).getD k
 have bn := (Lm_dg n).getD k
 refine sx_seq fun K8 k8 => ?_
 refine sx_seq fun K9 k9 => sx_region ?_
 refine mv rfl rfl (mv rfl rfl ?_)
 have f10 := hva0.ext cs3
 have f11 := f10.chg cwl7 (by omega)
 refine sp rfl (px_len rfl Tryd.underlying22 f11) ?_
 refine mv rfl rfl ?_
 have f12 := hvb0.ext cs3
 have f13 := f12.chg cwl7 (by omega)
 refine sp rfl (px_len rfl Tryd.underlying22 f13) ?_
 refine sp rfl (px_max rfl rfl) ?_
 refine sp rfl (px_lt rfl rfl) ?_
 refine wl_nil (q_n (k9 _ _ ?_))
 refine sx_condP rfl (fun h105 => ?_) (fun h105 => ?_)
 ·
  refine sx_skip ?_
  refine q_n (k8 _ _ ?_)
  refine sx_seq fun K14 k14 => ?_
  refine sx_block ?_
  refine sx_seq fun K15 k15 => ?_
  refine sx_seq fun K16 k16 => sx_region ?_
  refine mv rfl rfl (mv rfl rfl (sp rfl (px_len rfl Tryd.underlying22 f11) ?_))
  refine sp rfl (px_lt rfl rfl) ?_
  refine wl_nil (q_n (k16 _ _ ?_))
  refine sx_sub (Sub.c 0 rfl (.c 1 rfl (.c 5 rfl (.c 6 rfl (.c 7 rfl (.c 27 rfl .nil)))))) ?_
  refine sx_condP rfl (fun h106 => ?_) (fun h106 => ?_)
  ·
   refine sx_region ?_
   refine mv rfl rfl (mv rfl rfl (mv rfl rfl (sp rfl (px_index1 (j := k) rfl rfl (by omega) Tryd.underlying22 Tryd.sizeOf3 f11 (by omega)) ?_)))
   refine sp rfl (px_load rfl (f11.load1 (at_int (by omega)) Tryd.isAgg3)) ?_
   refine sp rfl (px_add rfl rfl (by omega)) ?_
   refine av rfl rfl (wl_nil (q_n (k15 _ _ ?_)))
   refine sx_seq fun K17 k17 => ?_
   refine sx_seq fun K18 k18 => sx_region ?_
   refine mv rfl rfl (mv rfl rfl (sp rfl (px_len rfl Tryd.underlying22 f13) ?_))
   refine sp rfl (px_lt rfl rfl) ?_
   refine wl_nil (q_n (k18 _ _ ?_))
   refine sx_sub (Sub.c 0 rfl (.c 1 rfl (.c 5 rfl (.c 6 rfl (.c 7 rfl (.c 37 rfl .nil)))))) ?_
   refine sx_condP rfl (fun h109 => ?_) (fun h109 => ?_)
   ·
    refine sx_region ?_
    refine mv rfl rfl (mv rfl rfl (mv rfl rfl (sp rfl (px_index1 (j := k) rfl rfl (by omega) Tryd.underlying22 Tryd.sizeOf3 f13 (by omega)) ?_)))
    refine sp rfl (px_load rfl (f13.load1 (at_int (by omega)) Tryd.isAgg3)) ?_
    refine sp rfl (px_add rfl rfl (by omega)) ?_
    refine av rfl rfl (wl_nil (q_n (k17 _ _ ?_)))
    refine sx_seq fun K19 k19 => sx_region ?_
    refine mv rfl rfl (mv rfl rfl (sp rfl (px_rem rfl rfl (by omega) (by omega)) ?_))
    refine sx_lit1 rfl xelt22 rfl rfl (fun s20 ws20 ss20 fs20 cs20 => ?_)
    have ns20 := Own.norm (f := (Value.int .i64)) (zs := [((((c : Nat) : Int) + ((dg m).getD k 0)) + ((dg n).getD k 0)) % 1000000000]) fs20
    have zws20 := cs20.size
    have f22 := hs_s.ext cs20
    refine sx_append rfl xelt22 rfl rfl f22 ns20.sv one_int (by omega) (by simp only [List.length_cons, List.length_nil]; omega) (by unfold maxLen; simp only [List.length_cons, List.length_nil]; omega) (fun a21 w21 fw21 cw21 => ?_)
    have nw21 := Own.app (f := (Value.int .i64)) (a := os) (b := [((((c : Nat) : Int) + ((dg m).getD k 0)) + ((dg n).getD k 0)) % 1000000000]) fw21
    have zw21 := cw21.size
    refine av rfl rfl (wl_nil (q_n (k19 _ _ ?_)))
    refine sx_sub (Sub.c 0 rfl (.c 1 rfl (.c 5 rfl (.c 6 rfl (.c 7 rfl .nil))))) ?_
    refine sx_region ?_
    refine mv rfl rfl (sp rfl (px_quo rfl rfl (by omega) (by omega) (by omega)) ?_)
    refine av rfl rfl (wl_nil ?_)
    refine q_bn (q_n (k14 _ _ ?_))
    refine sx_region ?_
    refine mv rfl rfl (sp rfl (px_add rfl rfl (by omega)) ?_)
    refine av rfl rfl (wl_nil ?_)
    have q23 := Chg.step (l := w.heap.size) (h := ws3.heap.size) cwl7 cs20 (by omega)
    have q24 := Chg.step (l := w.heap.size) (h := ws3.heap.size) q23 cw21 (by omega)
    have hs : (((((c : Nat) : Int) + ((dg m).getD k 0)) + ((dg n).getD k 0)) : Int) = ((c : Nat) : Int) + (((dg m).getD k 0).toNat : Nat) + (((dg n).getD k 0).toNat : Nat) := by omega
    have hv2 : vl (os ++ [(((((c : Nat) : Int) + ((dg m).getD k 0)) + ((dg n).getD k 0))) % 1000000000]) + Bs ^ (k + 1) * ((((((c : Nat) : Int) + ((dg m).getD k 0)) + ((dg n).getD k 0))) / 1000000000 : Int).toNat = vl ((dg m).take (k + 1)) + vl ((dg n).take (k + 1)) := by
     rw [vl_concat, hos, vl_take_succ', vl_take_succ', Nat.pow_succ]
     exact add_step hs hv
    have hX := mod_bd (s := ((((c : Nat) : Int) + ((dg m).getD k 0)) + ((dg n).getD k 0))) (by omega)
    exact fun a ha => ⟨_, by omega, (k + 1), a21, (os ++ ([((((c : Nat) : Int) + ((dg m).getD k 0)) + ((dg n).getD k 0)) % 1000000000])), ((((((c : Nat) : Int) + ((dg m).getD k 0)) + ((dg n).getD k 0))) / 1000000000 : Int).toNat, ha.sub (Sub.c 0 rfl (.c 1 rfl (.c 5 rfl (.c 6 (look_int (t := 6) rfl (by first | omega | simp)) (.c 7 (look_int (t := 7) rfl (by first | omega | simp)) .nil))))), q24, (nw21.mono (by omega) (by omega)), rfl, by simp [hos], hlm.append (Lm.single hX.1 hX.2), by omega, by omega, hv2⟩
   have gn := getD_ge (zs := dg n) (k := k) (by omega)
   refine sx_skip ?_
   refine q_n (k17 _ _ ?_)
   refine sx_seq fun K25 k25 => sx_region ?_
   refine mv rfl rfl (mv rfl rfl (sp rfl (px_rem rfl rfl (by omega) (by omega)) ?_))
   refine sx_lit1 rfl xelt22 rfl rfl (fun s26 ws26 ss26 fs26 cs26 => ?_)
   have ns26 := Own.norm (f := (Value.int .i64)) (zs := [(((c : Nat) : Int) + ((dg m).getD k 0)) % 1000000000]) fs26
   have zws26 := cs26.size
   have f28 := hs_s.ext cs26
   refine sx_append rfl xelt22 rfl rfl f28 ns26.sv one_int (by omega) (by simp only [List.length_cons, List.length_nil]; omega) (by unfold maxLen; simp only [List.length_cons, List.length_nil]; omega) (fun a27 w27 fw27 cw27 => ?_)
   have nw27 := Own.app (f := (Value.int .i64)) (a := os) (b := [(((c : Nat) : Int) + ((dg m).getD k 0)) % 1000000000]) fw27
   have zw27 := cw27.size
   refine av rfl rfl (wl_nil (q_n (k25 _ _ ?_)))
   refine sx_region ?_
   refine mv rfl rfl (sp rfl (px_quo rfl rfl (by omega) (by omega) (by omega)) ?_)
   refine av rfl rfl (wl_nil ?_)
   refine q_bn (q_n (k14 _ _ ?_))
   refine sx_region ?_
   refine mv rfl rfl (sp rfl (px_add rfl rfl (by omega)) ?_)
   refine av rfl rfl (wl_nil ?_)
   have q29 := Chg.step (l := w.heap.size) (h := ws3.heap.size) cwl7 cs26 (by omega)
   have q30 := Chg.step (l := w.heap.size) (h := ws3.heap.size) q29 cw27 (by omega)
   have hs : ((((c : Nat) : Int) + ((dg m).getD k 0)) : Int) = ((c : Nat) : Int) + (((dg m).getD k 0).toNat : Nat) + (((dg n).getD k 0).toNat : Nat) := by omega
   have hv2 : vl (os ++ [((((c : Nat) : Int) + ((dg m).getD k 0))) % 1000000000]) + Bs ^ (k + 1) * (((((c : Nat) : Int) + ((dg m).getD k 0))) / 1000000000 : Int).toNat = vl ((dg m).take (k + 1)) + vl ((dg n).take (k + 1)) := by
    rw [vl_concat, hos, vl_take_succ', vl_take_succ', Nat.pow_succ]
    exact add_step hs hv
   have hX := mod_bd (s := (((c : Nat) : Int) + ((dg m).getD k 0))) (by omega)
   exact fun a ha => ⟨_, by omega, (k + 1), a27, (os ++ ([(((c : Nat) : Int) + ((dg m).getD k 0)) % 1000000000])), (((((c : Nat) : Int) + ((dg m).getD k 0))) / 1000000000 : Int).toNat, ha.sub (Sub.c 0 rfl (.c 1 rfl (.c 5 rfl (.c 6 (look_int (t := 6) rfl (by first | omega | simp)) (.c 7 (look_int (t := 7) rfl (by first | omega | simp)) .nil))))), q30, (nw27.mono (by omega) (by omega)), rfl, by simp [hos], hlm.append (Lm.single hX.1 hX.2), by omega, by omega, hv2⟩
  have gm := getD_ge (zs := dg m) (k := k) (by omega)
  refine sx_skip ?_
  refine q_n (k15 _ _ ?_)
  refine sx_seq fun K31 k31 => ?_
  refine sx_seq fun K32 k32 => sx_region ?_
  refine mv rfl rfl (mv rfl rfl (sp rfl (px_len rfl Tryd.underlying22 f13) ?_))
  refine sp rfl (px_lt rfl rfl) ?_
  refine wl_nil (q_n (k32 _ _ ?_))
  refine sx_condP rfl (fun h109 => ?_) (fun h109 => ?_)
  ·
   refine sx_region ?_
   refine mv rfl rfl (mv rfl rfl (mv rfl rfl (sp rfl (px_index1 (j := k) rfl rfl (by omega) Tryd.underlying22 Tryd.sizeOf3 f13 (by omega)) ?_)))
   refine sp rfl (px_load rfl (f13.load1 (at_int (by omega)) Tryd.isAgg3)) ?_
   refine sp rfl (px_add rfl rfl (by omega)) ?_
   refine av rfl rfl (wl_nil (q_n (k31 _ _ ?_)))
   refine sx_sub (Sub.c 0 rfl (.c 1 rfl (.c 5 rfl (.c 6 rfl (.c 7 rfl .nil))))) ?_
   refine sx_seq fun K33 k33 => sx_region ?_
   refine mv rfl rfl (mv rfl rfl (sp rfl (px_rem rfl rfl (by omega) (by omega)) ?_))
   refine sx_lit1 rfl xelt22 rfl rfl (fun s34 ws34 ss34 fs34 cs34 => ?_)
   have ns34 := Own.norm (f := (Value.int .i64)) (zs := [(((c : Nat) : Int) + ((dg n).getD k 0)) % 1000000000]) fs34
   have zws34 := cs34.size
   have f36 := hs_s.ext cs34
   refine sx_append rfl xelt22 rfl rfl f36 ns34.sv one_int (by omega) (by simp only [List.length_cons, List.length_nil]; omega) (by unfold maxLen; simp only [List.length_cons, List.length_nil]; omega) (fun a35 w35 fw35 cw35 => ?_)
   have nw35 := Own.app (f := (Value.int .i64)) (a := os) (b := [(((c : Nat) : Int) + ((dg n).getD k 0)) % 1000000000]) fw35
   have zw35 := cw35.size
   refine av rfl rfl (wl_nil (q_n (k33 _ _ ?_)))
   refine sx_region ?_
   refine mv rfl rfl (sp rfl (px_quo rfl rfl (by omega) (by omega) (by omega)) ?_)
   refine av rfl rfl (wl_nil ?_)
   refine q_bn (q_n (k14 _ _ ?_))
   refine sx_region ?_
   refine mv rfl rfl (sp rfl (px_add rfl rfl (by omega)) ?_)
   refine av rfl rfl (wl_nil ?_)
   have q37 := Chg.step (l := w.heap.size) (h := ws3.heap.size) cwl7 cs34 (by omega)
   have q38 := Chg.step (l := w.heap.size) (h := ws3.heap.size) q37 cw35 (by omega)
   have hs : ((((c : Nat) : Int) + ((dg n).getD k 0)) : Int) = ((c : Nat) : Int) + (((dg m).getD k 0).toNat : Nat) + (((dg n).getD k 0).toNat : Nat) := by omega
   have hv2 : vl (os ++ [((((c : Nat) : Int) + ((dg n).getD k 0))) % 1000000000]) + Bs ^ (k + 1) * (((((c : Nat) : Int) + ((dg n).getD k 0))) / 1000000000 : Int).toNat = vl ((dg m).take (k + 1)) + vl ((dg n).take (k + 1)) := by
    rw [vl_concat, hos, vl_take_succ', vl_take_succ', Nat.pow_succ]
    exact add_step hs hv
   have hX := mod_bd (s := (((c : Nat) : Int) + ((dg n).getD k 0))) (by omega)
   exact fun a ha => ⟨_, by omega, (k + 1), a35, (os ++ ([(((c : Nat) : Int) + ((dg n).getD k 0)) % 1000000000])), (((((c : Nat) : Int) + ((dg n).getD k 0))) / 1000000000 : Int).toNat, ha.sub (Sub.c 0 rfl (.c 1 rfl (.c 5 rfl (.c 6 (look_int (t := 6) rfl (by first | omega | simp)) (.c 7 (look_int (t := 7) rfl (by first | omega | simp)) .nil))))), q38, (nw35.mono (by omega) (by omega)), rfl, by simp [hos], hlm.append (Lm.single hX.1 hX.2), by omega, by omega, hv2⟩
  have gn := getD_ge (zs := dg n) (k := k) (by omega)
  refine sx_skip ?_
  refine q_n (k31 _ _ ?_)
  refine sx_seq fun K39 k39 => sx_region ?_
  refine mv rfl rfl (mv rfl rfl (sp rfl (px_rem rfl rfl (by omega) (by omega)) ?_))
  refine sx_lit1 rfl xelt22 rfl rfl (fun s40 ws40 ss40 fs40 cs40 => ?_)
  have ns40 := Own.norm (f := (Value.int .i64)) (zs := [((c : Nat) : Int) % 1000000000]) fs40
  have zws40 := cs40.size
  have f42 := hs_s.ext cs40
  refine sx_append rfl xelt22 rfl rfl f42 ns40.sv one_int (by omega) (by simp only [List.length_cons, List.length_nil]; omega) (by unfold maxLen; simp only [List.length_cons, List.length_nil]; omega) (fun a41 w41 fw41 cw41 => ?_)
  have nw41 := Own.app (f := (Value.int .i64)) (a := os) (b := [((c : Nat) : Int) % 1000000000]) fw41
  have zw41 := cw41.size
  refine av rfl rfl (wl_nil (q_n (k39 _ _ ?_)))
  refine sx_sub (Sub.c 0 rfl (.c 1 rfl (.c 5 rfl (.c 6 rfl (.c 7 rfl .nil))))) ?_
  refine sx_region ?_
  refine mv rfl rfl (sp rfl (px_quo rfl rfl (by omega) (by omega) (by omega)) ?_)
  refine av rfl rfl (wl_nil ?_)
  refine q_bn (q_n (k14 _ _ ?_))
  refine sx_region ?_
  refine mv rfl rfl (sp rfl (px_add rfl rfl (by omega)) ?_)
  refine av rfl rfl (wl_nil ?_)
  have q43 := Chg.step (l := w.heap.size) (h := ws3.heap.size) cwl7 cs40 (by omega)
  have q44 := Chg.step (l := w.heap.size) (h := ws3.heap.size) q43 cw41 (by omega)
  have hs : (((c : Nat) : Int) : Int) = ((c : Nat) : Int) + (((dg m).getD k 0).toNat : Nat) + (((dg n).getD k 0).toNat : Nat) := by omega
  have hv2 : vl (os ++ [(((c : Nat) : Int)) % 1000000000]) + Bs ^ (k + 1) * ((((c : Nat) : Int)) / 1000000000 : Int).toNat = vl ((dg m).take (k + 1)) + vl ((dg n).take (k + 1)) := by
   rw [vl_concat, hos, vl_take_succ', vl_take_succ', Nat.pow_succ]
   exact add_step hs hv
  have hX := mod_bd (s := ((c : Nat) : Int)) (by omega)
  exact fun a ha => ⟨_, by omega, (k + 1), a41, (os ++ ([((c : Nat) : Int) % 1000000000])), ((((c : Nat) : Int)) / 1000000000 : Int).toNat, ha.sub (Sub.c 0 rfl (.c 1 rfl (.c 5 rfl (.c 6 (look_int (t := 6) rfl (by first | omega | simp)) (.c 7 (look_int (t := 7) rfl (by first | omega | simp)) .nil))))), q44, (nw41.mono (by omega) (by omega)), rfl, by simp [hos], hlm.append (Lm.single hX.1 hX.2), by omega, by omega, hv2⟩
 refine sx_exit ?_
 refine q_e (q_e (q_bx (q_n (k5 _ _ ?_))))
 refine sx_seq fun K45 k45 => ?_
 have ek : k = max (dg m).length (dg n).length := by omega
 have hz : Lm (os ++ [((c : Nat) : Int)]) := hlm.append (Lm.single (by omega) (by omega))
 have hvv : vl (os ++ [((c : Nat) : Int)]) = m + n := by rw [vl_concat, hos, Int.toNat_natCast, hv, vl_take_ge (by omega), vl_take_ge (by omega), vl_dg, vl_dg]
 refine sx_region ?_
 refine mv rfl rfl (mv rfl rfl ?_)
 refine sx_lit1 rfl xelt22 rfl rfl (fun s46 ws46 ss46 fs46 cs46 => ?_)
 have ns46 := Own.norm (f := (Value.int .i64)) (zs := [((c : Nat) : Int)]) fs46
 have zws46 := cs46.size
 have f48 := hs_s.ext cs46
 refine sx_append rfl xelt22 rfl rfl f48 ns46.sv one_int (by omega) (by simp only [List.length_cons, List.length_nil]; omega) (by unfold maxLen; simp only [List.length_cons, List.length_nil]; omega) (fun a47 w47 fw47 cw47 => ?_)
 have nw47 := Own.app (f := (Value.int .i64)) (a := os) (b := [((c : Nat) : Int)]) fw47
 have zw47 := cw47.size
 refine sx_call rfl rfl Tryd.call126 (c_trim nw47 (by assumption) (by first | omega | (simp only [List.length_append, List.length_set, List.length_replicate, List.length_cons, List.length_nil] at *; omega))) (fun v49 w49 p49 => ?_)
 obtain ⟨s49, rfl, os_49, c49⟩ := p49
 have zw49 := c49.size
 refine av rfl rfl (wl_nil (q_n (k45 _ _ ?_)))
 refine sx_sub (Sub.c 4 rfl .nil) ?_
 refine sx_retc ?_
 refine sx_ret1 Tryd.results119 rfl ?_
 have hr := os_49
 rw [hvv] at hr
 have q50 := Chg.step (l := 0) (h := 0) (Chg.zero (l := 0) (h := 0) cs3) cwl7 (by omega)
 have q51 := Chg.step (l := 0) (h := 0) q50 cs46 (by omega)
 have q52 := Chg.step (l := 0) (h := 0) q51 cw47 (by omega)
 have q53 := Chg.step (l := 0) (h := 0) q52 c49 (by omega)
 exact ⟨_, rfl, hr.mono (by omega) (by omega), q53⟩

theorem c_natAdd1 {w : World} {va : Value} {lva uva : Nat} {m : Nat} {vb : Value} {lvb uvb : Nat} {ys : List Int} (hva : Sl w lva uva va (dg m)) (hvb : Sl w lvb uvb vb (ys)) (hbm : (dg m).length ≤ 1000) (hy : ys = [1]) :
  Ret Tryd.prog 119 [va, vb] w fun v w' => ∃ s, v = s ∧ OwnI w' w.heap.size w'.heap.size s intT (dg (m + 1)) ∧ Chg 0 0 w w' := by
 rw [hy, ← dg_1] at hvb; exact c_natAdd hva hvb hbm (by rw [dg_1]; simp)

theorem c_signed {w : World} {n : Bool} {va : Value} {lva uva : Nat} {zs : List Int} (hva : Sl w lva uva va (zs)) (h63 : zs.length ≤ 4611686018427387904) :
  Ret Tryd.prog 113 [.bool n, va] w fun v w' => v = .agg #[.bool (nz n zs), va] ∧ Chg 0 0 w w' := by
 have hva0 := hva.fit
 refine sx_enter Tryd.func113 rfl Tryd.ntmps113 (nbl rfl) ?_
 refine sx_seq fun K1 k1 => sx_region ?_
 refine sx_alloc [.bool false, (.slice none 0 0)] rfl Tryd.zeroValue29 rfl (fun b2 w3 eb2 sb2 fb2 cb2 => ?_)
 have zw3 := cb2.size
 refine wl_nil (q_n (k1 _ _ ?_))
 refine sx_seq fun K4 k4 => sx_region ?_
 refine mv rfl rfl (mv rfl rfl ?_)
 refine sx_tmpB (t := 6) rfl (fun h16 => ?_) (fun h16 => ?_)
 ·
  refine sx_guardT rfl rfl rfl ?_
  refine mv rfl rfl ?_
  refine sx_guardT rfl rfl rfl ?_
  have f5 := hva0.ext cb2
  refine sp rfl (px_len rfl Tryd.underlying22 f5) ?_
  refine sx_guardT rfl rfl rfl ?_
  refine sp rfl (px_gt rfl rfl) ?_
  refine sp rfl (px_pick rfl rfl) ?_
  refine mv rfl rfl (sp rfl (px_build rfl (xbld29x0x1 rfl f5.one _)) ?_)
  refine sx_store (vs := [.bool (decide ((0 : Int) < ↑((zs).length))), va]) rfl rfl fb2 rfl Tryd.sizeOf29 (nbl rfl) (one_cons rfl (one_cons f5.one one_nil)) (fun w6 sw6 fw6 cw6 => ?_)
  have zw6 := cw6.size
  have gw6 : Blk w6 b2 [.bool (decide ((0 : Int) < ↑((zs).length))), va] 29 := fw6
  refine wl_nil (q_n (k4 _ _ ?_))
  refine sx_retc ?_
  refine sx_ret1 Tryd.results113 ⟨_, rfl, gw6.loadA (vs := [.bool (decide ((0 : Int) < ↑((zs).length))), va]) (look_lit rfl) Tryd.isAgg29 Tryd.sizeOf29⟩ ?_
  have q7 := Chg.step (l := 0) (h := 0) (Chg.zero (l := 0) (h := 0) cb2) cw6 (by omega)
  exact ⟨(by simp [nz, h16]), q7⟩
 refine sx_guardF rfl rfl rfl rfl rfl rfl ?_
 refine sx_guardF rfl rfl rfl rfl rfl rfl ?_
 refine sx_guardF rfl rfl rfl rfl rfl rfl ?_
 refine sp rfl (px_pick rfl rfl) ?_
 refine mv rfl rfl ?_
 have f8 := hva0.ext cb2
 refine sp rfl (px_build rfl (xbld29x0x1 rfl f8.one _)) ?_
 refine sx_store (vs := [.bool false, va]) rfl rfl fb2 rfl Tryd.sizeOf29 (nbl rfl) (one_cons rfl (one_cons f8.one one_nil)) (fun w9 sw9 fw9 cw9 => ?_)
 have zw9 := cw9.size
 have gw9 : Blk w9 b2 [.bool false, va] 29 := fw9
 refine wl_nil (q_n (k4 _ _ ?_))
 refine sx_retc ?_
 refine sx_ret1 Tryd.results113 ⟨_, rfl, gw9.loadA (vs := [.bool false, va]) (look_lit rfl) Tryd.isAgg29 Tryd.sizeOf29⟩ ?_
 have q10 := Chg.step (l := 0) (h := 0) (Chg.zero (l := 0) (h := 0) cb2) cw9 (by omega)
 exact ⟨(by simp [nz, h16]), q10⟩

theorem c_natCmp {w : World} {va : Value} {lva uva : Nat} {zs : List Int} {vb : Value} {lvb uvb : Nat} {ys : List Int} (hva : Sl w lva uva va (zs)) (hvb : Sl w lvb uvb vb (ys)) (h63 : zs.length ≤ 4611686018427387904 ∧ ys.length ≤ 4611686018427387904) :
  Ret Tryd.prog 120 [va, vb] w fun v w' => v = .int .i64 (cmpL zs ys) ∧ Chg 0 0 w w' := by
 have hva0 := hva.fit
 have hvb0 := hvb.fit
 have zs0 : zs.drop zs.length = [] := by simp
 have ys0 : ys.drop ys.length = [] := by simp
 refine sx_enter Tryd.func120 rfl Tryd.ntmps120 (nbl rfl) ?_
 refine sx_seq fun K1 k1 => sx_region ?_
 refine av rfl rfl (wl_nil (q_n (k1 _ _ ?_)))
 refine sx_seq fun K2 k2 => ?_
 refine sx_seq fun K3 k3 => sx_region ?_
 refine mv rfl rfl (sp rfl (px_len rfl Tryd.underlying22 hva0) ?_)
 refine mv rfl rfl (sp rfl (px_len rfl Tryd.underlying22 hvb0) ?_)
 refine sp rfl (px_ne rfl rfl) ?_
 refine wl_nil (q_n (k3 _ _ ?_))
 refine sx_condP rfl (fun h76 => ?_) (fun h76 => ?_)
 ·
  refine sx_seq fun K4 k4 => ?_
  refine sx_seq fun K5 k5 => sx_region ?_
  refine mv rfl rfl (sp rfl (px_len rfl Tryd.underlying22 hva0) ?_)
  refine mv rfl rfl (sp rfl (px_len rfl Tryd.underlying22 hvb0) ?_)
  refine sp rfl (px_lt rfl rfl) ?_
  refine wl_nil (q_n (k5 _ _ ?_))
  refine sx_condP rfl (fun h77 => ?_) (fun h77 => ?_)
  ·
   refine sx_seq fun K6 k6 => sx_region ?_
   refine av rfl rfl (wl_nil (q_n (k6 _ _ ?_)))
   refine sx_retc ?_
   refine q_r (q_r (sx_ret1 Tryd.results120 rfl ?_))
   exact ⟨iEq (cmpL_short (by omega)).symm, (Chg.refl 0 0 _)⟩
  refine sx_skip ?_
  refine q_n (k4 _ _ ?_)
  refine sx_seq fun K7 k7 => sx_region ?_
  refine av rfl rfl (wl_nil (q_n (k7 _ _ ?_)))
  refine sx_retc ?_
  refine q_r (sx_ret1 Tryd.results120 rfl ?_)
  exact ⟨iEq (cmpL_long (by omega)).symm, (Chg.refl 0 0 _)⟩
 refine sx_skip ?_
 refine q_n (k2 _ _ ?_)
 refine sx_seq fun K8 k8 => ?_
 refine sx_seq fun K9 k9 => sx_region ?_
 refine mv rfl rfl (sp rfl (px_len rfl Tryd.underlying22 hva0) ?_)
 refine sp rfl (px_sub rfl rfl (by omega)) ?_
 refine av rfl rfl (wl_nil (q_n (k9 _ _ ?_)))
 refine sx_block ?_
 have e00 : zs.length = ys.length := by omega
 have he0 : zs.drop zs.length = ys.drop zs.length := by rw [zs0, e00, ys0]
 refine sx_loop (fun mm aa w' => ∃ (k : Nat), Agr 41 [(0, va), (1, vb), (5, .int .i64 (↑k - 1))] aa ∧ Chg 0 0 w w' ∧ (mm = k) ∧ (k ≤ zs.length) ∧ (zs.drop k = ys.drop k)) (_) (fun a ha => ⟨zs.length, ha.sub (Sub.c 0 rfl (.c 1 rfl (.c 5 (look_int (t := 5) rfl (by first | omega | simp)) .nil))), Chg.refl _ _ _, rfl, by omega, he0⟩) ?_
 rintro mm aa wl10 ⟨k, hAwl10, cwl10, hm, hk, he⟩
 refine (show cw Tryd.prog 41 _ _ _ wl10 from ?_) aa hAwl10
 clear hAwl10
 have zwl10 := cwl10.size
 have hl : zs.length = ys.length := by omega
 refine sx_seq fun K11 k11 => ?_
 refine sx_seq fun K12 k12 => sx_region ?_
 refine mv rfl rfl (sp rfl (px_ge rfl rfl) ?_)
 refine wl_nil (q_n (k12 _ _ ?_))
 refine sx_condP rfl (fun h82 => ?_) (fun h82 => ?_)
 ·
  refine sx_skip ?_
  refine q_n (k11 _ _ ?_)
  refine sx_seq fun K13 k13 => ?_
  refine sx_block ?_
  refine sx_seq fun K14 k14 => ?_
  have f15 := hva0.ext cwl10
  have f16 := hvb0.ext cwl10
  refine dx_region (fun w' => Chg 0 0 wl10 w') (by kernel_rfl) (Chg.zero (Chg.drew _)) ?_
  have d17 := Chg.drew wl10
  have s17 : Chg 0 0 wl10 (World.drew wl10) := Chg.zero (Chg.drew _)
  have y17 : (World.drew wl10).heap.size = wl10.heap.size := rfl
  generalize World.drew wl10 = w17 at *
  have zw17 := d17.size
  refine dt 0 rfl rfl rfl rfl s17 (fun _ hS => px_move rfl) ?_
  refine dt 1 rfl rfl rfl rfl s17 (fun _ hS => px_move rfl) ?_
  refine dt 2 rfl rfl rfl rfl s17 (fun _ hS => px_index1 (j := (k - 1)) rfl rfl (by omega) Tryd.underlying22 Tryd.sizeOf3 ((f15).chg hS (by omega)) (by omega)) ?_
  refine dt 3 rfl rfl rfl rfl s17 (fun _ hS => px_load rfl (((f15).chg hS (by omega)).load1 (at_int (by omega)) Tryd.isAgg3)) ?_
  refine dt 4 rfl rfl rfl rfl s17 (fun _ hS => px_move rfl) ?_
  refine dt 5 rfl rfl rfl rfl s17 (fun _ hS => px_move rfl) ?_
  refine dt 6 rfl rfl rfl rfl s17 (fun _ hS => px_index1 (j := (k - 1)) rfl rfl (by omega) Tryd.underlying22 Tryd.sizeOf3 ((f16).chg hS (by omega)) (by omega)) ?_
  refine dt 7 rfl rfl rfl rfl s17 (fun _ hS => px_load rfl (((f16).chg hS (by omega)).load1 (at_int (by omega)) Tryd.isAgg3)) ?_
  refine dt 8 rfl rfl rfl rfl s17 (fun _ hS => px_ne rfl rfl) ?_
  refine dx_done (by kernel_rfl) ?_
  refine q_n (k14 _ _ ?_)
  refine sx_condP rfl (fun h83 => ?_) (fun h83 => ?_)
  ·
   refine sx_seq fun K18 k18 => ?_
   refine sx_seq fun K19 k19 => ?_
   have f20 := f15.ext d17
   have f21 := f16.ext d17
   refine dx_region (fun w' => Chg 0 0 w17 w') (by kernel_rfl) (Chg.zero (Chg.drew _)) ?_
   have d22 := Chg.drew w17
   have s22 : Chg 0 0 w17 (World.drew w17) := Chg.zero (Chg.drew _)
   have y22 : (World.drew w17).heap.size = w17.heap.size := rfl
   generalize World.drew w17 = w22 at *
   have zw22 := d22.size
   refine dt 0 rfl rfl rfl rfl s22 (fun _ hS => px_move rfl) ?_
   refine dt 1 rfl rfl rfl rfl s22 (fun _ hS => px_move rfl) ?_
   refine dt 2 rfl rfl rfl rfl s22 (fun _ hS => px_index1 (j := (k - 1)) rfl rfl (by omega) Tryd.underlying22 Tryd.sizeOf3 ((f20).chg hS (by omega)) (by omega)) ?_
   refine dt 3 rfl rfl rfl rfl s22 (fun _ hS => px_load rfl (((f20).chg hS (by omega)).load1 (at_int (by omega)) Tryd.isAgg3)) ?_
   refine dt 4 rfl rfl rfl rfl s22 (fun _ hS => px_move rfl) ?_
   refine dt 5 rfl rfl rfl rfl s22 (fun _ hS => px_move rfl) ?_
   refine dt 6 rfl rfl rfl rfl s22 (fun _ hS => px_index1 (j := (k - 1)) rfl rfl (by omega) Tryd.underlying22 Tryd.sizeOf3 ((f21).chg hS (by omega)) (by omega)) ?_
   refine dt 7 rfl rfl rfl rfl s22 (fun _ hS => px_load rfl (((f21).chg hS (by omega)).load1 (at_int (by omega)) Tryd.isAgg3)) ?_
   refine dt 8 rfl rfl rfl rfl s22 (fun _ hS => px_lt rfl rfl) ?_
   refine dx_done (by kernel_rfl) ?_
   refine q_n (k19 _ _ ?_)
   refine sx_sub (Sub.c 0 rfl (.c 1 rfl (.c 5 rfl (.c 40 rfl .nil)))) ?_
   refine sx_condP rfl (fun h84 => ?_) (fun h84 => ?_)
   ·
    refine sx_seq fun K23 k23 => sx_region ?_
    refine av rfl rfl (wl_nil (q_n (k23 _ _ ?_)))
    refine sx_retc ?_
    refine q_r (q_br (q_r (q_r (q_br (q_r (sx_ret1 Tryd.results120 rfl ?_))))))
    have hlt := cmpL_lt hl (k := k - 1) (by omega) (by rw [Nat.sub_add_cancel (by omega)]; exact he) (h84)
    exact ⟨iEq hlt.symm, ((cwl10.t d17).t d22)⟩
   refine sx_skip ?_
   refine q_n (k18 _ _ ?_)
   refine sx_seq fun K24 k24 => sx_region ?_
   refine av rfl rfl (wl_nil (q_n (k24 _ _ ?_)))
   refine sx_retc ?_
   refine q_br (q_r (q_r (q_br (q_r (sx_ret1 Tryd.results120 rfl ?_)))))
   have hlt := cmpL_gt hl (k := k - 1) (by omega) (by rw [Nat.sub_add_cancel (by omega)]; exact he) (by omega)
   exact ⟨iEq hlt.symm, ((cwl10.t d17).t d22)⟩
  refine sx_skip ?_
  refine q_bn (q_n (k13 _ _ ?_))
  refine sx_region ?_
  refine mv rfl rfl (sp rfl (px_sub rfl rfl (by omega)) ?_)
  refine av rfl rfl (wl_nil ?_)
  exact fun a ha => ⟨_, by omega, (k - 1), ha.sub (Sub.c 0 rfl (.c 1 rfl (.c 5 (look_int (t := 5) rfl (by first | omega | simp)) .nil))), (cwl10.t d17), rfl, by omega, drop_succ_eq (by omega) (by omega) (by rw [Nat.sub_add_cancel (by omega)]; exact he) (by omega)⟩
 refine sx_exit ?_
 refine q_e (q_e (q_bx (q_n (k8 _ _ ?_))))
 refine sx_seq fun K25 k25 => sx_region ?_
 refine av rfl rfl (wl_nil (q_n (k25 _ _ ?_)))
 refine sx_retc ?_
 refine sx_ret1 Tryd.results120 rfl ?_
 have e1 : k = 0 := by omega
 subst e1
 have e2 : zs = ys := by simpa using he
 subst e2
 exact ⟨iEq (cmpL_self zs).symm, cwl10⟩

theorem c_natSub {w : World} {va : Value} {lva uva : Nat} {m : Nat} {vb : Value} {lvb uvb : Nat} {n : Nat} (hva : Sl w lva uva va (dg m)) (hvb : Sl w lvb uvb vb (dg n)) (hbm : (dg m).length ≤ 1000) (hbn : (dg n).length ≤ 1000) (hle : n ≤ m) :
  Ret Tryd.prog 121 [va, vb] w fun v w' => ∃ s, v = s ∧ OwnI w' w.heap.size w'.heap.size s intT (dg (m - n)) ∧ Chg 0 0 w w' := by
 have hva0 := hva.fit
 have hvb0 := hvb.fit
 refine sx_enter Tryd.func121 rfl Tryd.ntmps121 (nbl rfl) ?_
 refine sx_seq fun K1 k1 => sx_region ?_
 refine av rfl rfl (wl_nil (q_n (k1 _ _ ?_)))
 refine sx_seq fun K2 k2 => sx_region ?_
 refine mv rfl rfl (sp rfl (px_len rfl Tryd.underlying22 hva0) ?_)
 refine sx_make (c := (dg m).length) rfl xelt22 (rfl) (rfl) (by omega) (by unfold maxLen; omega) (fun s3 ws3 fs3 cs3 ls3 => ?_)
 have ns3 := fs3.made
 have zws3 := cs3.size
 refine av rfl rfl (wl_nil (q_n (k2 _ _ ?_)))
 refine sx_seq fun K4 k4 => sx_region ?_
 refine av rfl rfl (wl_nil (q_n (k4 _ _ ?_)))
 refine sx_seq fun K5 k5 => ?_
 refine sx_seq fun K6 k6 => sx_region ?_
 refine mv rfl rfl ?_
 have f7 := hva0.ext cs3
 refine sp rfl (px_len rfl Tryd.underlying22 f7) ?_
 refine mv rfl rfl (wl_nil (q_n (k6 _ _ ?_)))
 refine sx_block ?_
 refine sx_loop (fun mm aa w' => ∃ (k : Nat) (os : List Int) (c : Nat), Agr 44 [(0, va), (1, vb), (5, s3), (6, .int .i64 ((c : Nat) : Int)), (13, .int .i64 (↑(dg m).length)), (14, .int .i64 ↑k)] aa ∧ Chg w.heap.size ws3.heap.size ws3 w' ∧ Own w' w.heap.size ws3.heap.size s3 intT os.length 1 (os.map (Value.int .i64)) ∧ (mm = (dg m).length - k) ∧ (os.length = (dg m).length) ∧ (Lm os) ∧ (c ≤ 1) ∧ (k ≤ (dg m).length) ∧ (vl ((dg m).take k) + Bs ^ k * c = vl (os.take k) + vl ((dg n).take k))) (_) (fun a ha => ⟨0, List.replicate (dg m).length 0, 0, ha.sub (Sub.c 0 rfl (.c 1 rfl (.c 5 rfl (.c 6 (look_int (t := 6) rfl (by first | omega | simp)) (.c 13 (look_int (t := 13) rfl (by first | omega | simp)) (.c 14 (look_int (t := 14) rfl (by first | omega | simp)) .nil)))))), Chg.refl _ _ _, (ns3.mono (by omega) (by omega)), rfl, by simp, Lm.replicate _, by omega, by omega, by simp [vl]⟩) ?_
 rintro mm aa wl8 ⟨k, os, c, hAwl8, cwl8, hs_s3, hm, hos, hlm, hc, hk, hv⟩
 refine (show cw Tryd.prog 44 _ _ _ wl8 from ?_) aa hAwl8
 clear hAwl8
 have zwl8 := cwl8.size
 have am := (Lm_dg m).getD k
 have bn := (Lm_dg n).getD k
 refine sx_seq fun K9 k9 => sx_region ?_
 refine sp rfl (px_lt rfl rfl) ?_
 refine wl_nil (q_n (k9 _ _ ?_))
 refine sx_seq fun K10 k10 => ?_
 refine sx_condP rfl (fun h122 => ?_) (fun h122 => ?_)
 ·
  refine sx_skip ?_
  refine q_n (k10 _ _ ?_)
  refine sx_seq fun K11 k11 => ?_
  refine sx_block ?_
  refine sx_seq fun K12 k12 => sx_region ?_
  refine mv rfl rfl (av rfl rfl (wl_nil (q_n (k12 _ _ ?_))))
  refine sx_seq fun K13 k13 => sx_region ?_
  refine mv rfl rfl (mv rfl rfl ?_)
  have f14 := f7.chg cwl8 (by omega)
  refine sp rfl (px_index1 (j := k) rfl rfl (by omega) Tryd.underlying22 Tryd.sizeOf3 f14 (by omega)) ?_
  refine sp rfl (px_load rfl (f14.load1 (at_int (by omega)) Tryd.isAgg3)) ?_
  refine mv rfl rfl (sp rfl (px_sub rfl rfl (by omega)) ?_)
  refine av rfl rfl (wl_nil (q_n (k13 _ _ ?_)))
  refine sx_sub (Sub.c 0 rfl (.c 1 rfl (.c 5 rfl (.c 6 rfl (.c 7 rfl (.c 8 rfl (.c 13 rfl (.c 14 rfl .nil)))))))) ?_
  refine sx_seq fun K15 k15 => ?_
  refine sx_seq fun K16 k16 => sx_region ?_
  refine mv rfl rfl (mv rfl rfl ?_)
  have f17 := hvb0.ext cs3
  have f18 := f17.chg cwl8 (by omega)
  refine sp rfl (px_len rfl Tryd.underlying22 f18) ?_
  refine sp rfl (px_lt rfl rfl) ?_
  refine wl_nil (q_n (k16 _ _ ?_))
  refine sx_condP rfl (fun h124 => ?_) (fun h124 => ?_)
  ·
   refine sx_region ?_
   refine mv rfl rfl (mv rfl rfl (mv rfl rfl (sp rfl (px_index1 (j := k) rfl rfl (by omega) Tryd.underlying22 Tryd.sizeOf3 f18 (by omega)) ?_)))
   refine sp rfl (px_load rfl (f18.load1 (at_int (by omega)) Tryd.isAgg3)) ?_
   refine sp rfl (px_sub rfl rfl (by omega)) ?_
   refine av rfl rfl (wl_nil (q_n (k15 _ _ ?_)))
   refine sx_sub (Sub.c 0 rfl (.c 1 rfl (.c 5 rfl (.c 6 rfl (.c 7 rfl (.c 8 rfl (.c 13 rfl (.c 14 rfl .nil)))))))) ?_
   refine sx_seq fun K19 k19 => sx_region ?_
   refine av rfl rfl (wl_nil (q_n (k19 _ _ ?_)))
   refine sx_seq fun K20 k20 => ?_
   refine sx_seq fun K21 k21 => sx_region ?_
   refine mv rfl rfl (sp rfl (px_lt rfl rfl) ?_)
   refine wl_nil (q_n (k21 _ _ ?_))
   refine sx_condP rfl (fun h128 => ?_) (fun h128 => ?_)
   ·
    refine sx_seq fun K22 k22 => sx_region ?_
    refine mv rfl rfl (sp rfl (px_add rfl rfl (by omega)) ?_)
    refine av rfl rfl (wl_nil (q_n (k22 _ _ ?_)))
    refine sx_region ?_
    refine av rfl rfl (wl_nil (q_n (k20 _ _ ?_)))
    refine sx_region ?_
    refine mv rfl rfl (mv rfl rfl (mv rfl rfl (sp rfl (px_index1 (j := k) rfl rfl (by omega) Tryd.underlying22 Tryd.sizeOf3 hs_s3.sv (by omega)) ?_)))
    refine sx_storeO rfl rfl hs_s3 (by first | omega | (simp only [List.length_map]; omega)) Tryd.sizeOf3 rfl (fun w23 sw23 fw23 cw23 => ?_)
    have zw23 := cw23.size
    have nw23 := fw23.set
    refine wl_nil ?_
    refine q_bn (q_n (k11 _ _ ?_))
    refine sx_sub (Sub.c 0 rfl (.c 1 rfl (.c 5 rfl (.c 6 rfl (.c 13 rfl (.c 14 rfl .nil)))))) ?_
    refine sx_region ?_
    refine sp rfl (px_add rfl rfl (by omega)) ?_
    refine mv rfl rfl (wl_nil ?_)
    have q24 := Chg.step (l := w.heap.size) (h := ws3.heap.size) cwl8 cw23 (by omega)
    have hs : ((dg m).getD k 0).toNat + Bs * 1 = ((dg n).getD k 0).toNat + c + ((((((dg m).getD k 0) - ((c : Nat) : Int)) - ((dg n).getD k 0)) + 1000000000) : Int).toNat := by simp only [Bs]; omega
    have hv2 : vl ((dg m).take (k + 1)) + Bs ^ (k + 1) * 1 = vl ((os.set k ((((((dg m).getD k 0) - ((c : Nat) : Int)) - ((dg n).getD k 0)) + 1000000000))).take (k + 1)) + vl ((dg n).take (k + 1)) := by
     rw [vl_take_set (by omega), vl_take_succ', vl_take_succ', Nat.pow_succ]
     exact sub_step hs hv
    exact fun a ha => ⟨_, by omega, (k + 1), ((os).set k (((((dg m).getD k 0) - ((c : Nat) : Int)) - ((dg n).getD k 0)) + 1000000000)), 1, ha.sub (Sub.c 0 rfl (.c 1 rfl (.c 5 rfl (.c 6 (look_int (t := 6) rfl (by first | omega | simp)) (.c 13 rfl (.c 14 (look_int (t := 14) rfl (by first | omega | simp)) .nil)))))), q24, (nw23.mono (by omega) (by omega)), rfl, by simp [hos], hlm.set k (by omega) (by omega), by omega, by omega, hv2⟩
   refine sx_skip ?_
   refine q_n (k20 _ _ ?_)
   refine sx_region ?_
   refine mv rfl rfl (mv rfl rfl (mv rfl rfl (sp rfl (px_index1 (j := k) rfl rfl (by omega) Tryd.underlying22 Tryd.sizeOf3 hs_s3.sv (by omega)) ?_)))
   refine sx_storeO rfl rfl hs_s3 (by first | omega | (simp only [List.length_map]; omega)) Tryd.sizeOf3 rfl (fun w25 sw25 fw25 cw25 => ?_)
   have zw25 := cw25.size
   have nw25 := fw25.set
   refine wl_nil ?_
   refine q_bn (q_n (k11 _ _ ?_))
   refine sx_region ?_
   refine sp rfl (px_add rfl rfl (by omega)) ?_
   refine mv rfl rfl (wl_nil ?_)
   have q26 := Chg.step (l := w.heap.size) (h := ws3.heap.size) cwl8 cw25 (by omega)
   have hs : ((dg m).getD k 0).toNat + Bs * 0 = ((dg n).getD k 0).toNat + c + (((((dg m).getD k 0) - ((c : Nat) : Int)) - ((dg n).getD k 0)) : Int).toNat := by simp only [Bs]; omega
   have hv2 : vl ((dg m).take (k + 1)) + Bs ^ (k + 1) * 0 = vl ((os.set k (((((dg m).getD k 0) - ((c : Nat) : Int)) - ((dg n).getD k 0)))).take (k + 1)) + vl ((dg n).take (k + 1)) := by
    rw [vl_take_set (by omega), vl_take_succ', vl_take_succ', Nat.pow_succ]
    exact sub_step hs hv
   exact fun a ha => ⟨_, by omega, (k + 1), ((os).set k ((((dg m).getD k 0) - ((c : Nat) : Int)) - ((dg n).getD k 0))), 0, ha.sub (Sub.c 0 rfl (.c 1 rfl (.c 5 rfl (.c 6 (look_int (t := 6) rfl (by first | omega | simp)) (.c 13 rfl (.c 14 (look_int (t := 14) rfl (by first | omega | simp)) .nil)))))), q26, (nw25.mono (by omega) (by omega)), rfl, by simp [hos], hlm.set k (by omega) (by omega), by omega, by omega, hv2⟩
  have gn := getD_ge (zs := dg n) (k := k) (by omega)
  refine sx_skip ?_
  refine q_n (k15 _ _ ?_)
  refine sx_seq fun K27 k27 => sx_region ?_
  refine av rfl rfl (wl_nil (q_n (k27 _ _ ?_)))
  refine sx_seq fun K28 k28 => ?_
  refine sx_seq fun K29 k29 => sx_region ?_
  refine mv rfl rfl (sp rfl (px_lt rfl rfl) ?_)
  refine wl_nil (q_n (k29 _ _ ?_))
  refine sx_condP rfl (fun h128 => ?_) (fun h128 => ?_)
  ·
   refine sx_seq fun K30 k30 => sx_region ?_
   refine mv rfl rfl (sp rfl (px_add rfl rfl (by omega)) ?_)
   refine av rfl rfl (wl_nil (q_n (k30 _ _ ?_)))
   refine sx_sub (Sub.c 0 rfl (.c 1 rfl (.c 5 rfl (.c 6 rfl (.c 7 rfl (.c 8 rfl (.c 13 rfl (.c 14 rfl .nil)))))))) ?_
   refine sx_region ?_
   refine av rfl rfl (wl_nil (q_n (k28 _ _ ?_)))
   refine sx_region ?_
   refine mv rfl rfl (mv rfl rfl (mv rfl rfl (sp rfl (px_index1 (j := k) rfl rfl (by omega) Tryd.underlying22 Tryd.sizeOf3 hs_s3.sv (by omega)) ?_)))
   refine sx_storeO rfl rfl hs_s3 (by first | omega | (simp only [List.length_map]; omega)) Tryd.sizeOf3 rfl (fun w31 sw31 fw31 cw31 => ?_)
   have zw31 := cw31.size
   have nw31 := fw31.set
   refine wl_nil ?_
   refine q_bn (q_n (k11 _ _ ?_))
   refine sx_region ?_
   refine sp rfl (px_add rfl rfl (by omega)) ?_
   refine mv rfl rfl (wl_nil ?_)
   have q32 := Chg.step (l := w.heap.size) (h := ws3.heap.size) cwl8 cw31 (by omega)
   have hs : ((dg m).getD k 0).toNat + Bs * 1 = ((dg n).getD k 0).toNat + c + (((((dg m).getD k 0) - ((c : Nat) : Int)) + 1000000000) : Int).toNat := by simp only [Bs]; omega
   have hv2 : vl ((dg m).take (k + 1)) + Bs ^ (k + 1) * 1 = vl ((os.set k (((((dg m).getD k 0) - ((c : Nat) : Int)) + 1000000000))).take (k + 1)) + vl ((dg n).take (k + 1)) := by
    rw [vl_take_set (by omega), vl_take_succ', vl_take_succ', Nat.pow_succ]
    exact sub_step hs hv
   exact fun a ha => ⟨_, by omega, (k + 1), ((os).set k ((((dg m).getD k 0) - ((c : Nat) : Int)) + 1000000000)), 1, ha.sub (Sub.c 0 rfl (.c 1 rfl (.c 5 rfl (.c 6 (look_int (t := 6) rfl (by first | omega | simp)) (.c 13 rfl (.c 14 (look_int (t := 14) rfl (by first | omega | simp)) .nil)))))), q32, (nw31.mono (by omega) (by omega)), rfl, by simp [hos], hlm.set k (by omega) (by omega), by omega, by omega, hv2⟩
  refine sx_skip ?_
  refine q_n (k28 _ _ ?_)
  refine sx_region ?_
  refine mv rfl rfl (mv rfl rfl (mv rfl rfl (sp rfl (px_index1 (j := k) rfl rfl (by omega) Tryd.underlying22 Tryd.sizeOf3 hs_s3.sv (by omega)) ?_)))
  refine sx_storeO rfl rfl hs_s3 (by first | omega | (simp only [List.length_map]; omega)) Tryd.sizeOf3 rfl (fun w33 sw33 fw33 cw33 => ?_)
  have zw33 := cw33.size
  have nw33 := fw33.set
  refine wl_nil ?_
  refine q_bn (q_n (k11 _ _ ?_))
  refine sx_sub (Sub.c 0 rfl (.c 1 rfl (.c 5 rfl (.c 6 rfl (.c 13 rfl (.c 14 rfl .nil)))))) ?_
  refine sx_region ?_
  refine sp rfl (px_add rfl rfl (by omega)) ?_
  refine mv rfl rfl (wl_nil ?_)
  have q34 := Chg.step (l := w.heap.size) (h := ws3.heap.size) cwl8 cw33 (by omega)
  have hs : ((dg m).getD k 0).toNat + Bs * 0 = ((dg n).getD k 0).toNat + c + ((((dg m).getD k 0) - ((c : Nat) : Int)) : Int).toNat := by simp only [Bs]; omega
  have hv2 : vl ((dg m).take (k + 1)) + Bs ^ (k + 1) * 0 = vl ((os.set k ((((dg m).getD k 0) - ((c : Nat) : Int)))).take (k + 1)) + vl ((dg n).take (k + 1)) := by
   rw [vl_take_set (by omega), vl_take_succ', vl_take_succ', Nat.pow_succ]
   exact sub_step hs hv
  exact fun a ha => ⟨_, by omega, (k + 1), ((os).set k (((dg m).getD k 0) - ((c : Nat) : Int))), 0, ha.sub (Sub.c 0 rfl (.c 1 rfl (.c 5 rfl (.c 6 (look_int (t := 6) rfl (by first | omega | simp)) (.c 13 rfl (.c 14 (look_int (t := 14) rfl (by first | omega | simp)) .nil)))))), q34, (nw33.mono (by omega) (by omega)), rfl, by simp [hos], hlm.set k (by omega) (by omega), by omega, by omega, hv2⟩
 refine sx_exit ?_
 refine q_e (q_e (q_bx (q_n (k5 _ _ ?_))))
 refine sx_seq fun K35 k35 => ?_
 have ek : k = (dg m).length := by omega
 have hnm := len_le hle
 subst ek
 rw [List.take_length, vl_dg, vl_take_ge (show (dg n).length ≤ (dg m).length from hnm), vl_dg, ← hos, List.take_length] at hv
 have hend := sub_end hv hle (vl_lt hlm) hc
 have hvv := hend.2
 have hz := hlm
 refine sx_region ?_
 refine mv rfl rfl (sx_call rfl rfl Tryd.call126 (c_trim hs_s3 (by assumption) (by first | omega | (simp only [List.length_append, List.length_set, List.length_replicate, List.length_cons, List.length_nil] at *; omega))) (fun v36 w36 p36 => ?_))
 obtain ⟨s36, rfl, os_36, c36⟩ := p36
 have zw36 := c36.size
 refine av rfl rfl (wl_nil (q_n (k35 _ _ ?_)))
 refine sx_retc ?_
 refine sx_ret1 Tryd.results121 rfl ?_
 have hr := os_36
 rw [hvv] at hr
 have q37 := Chg.step (l := 0) (h := 0) (Chg.zero (l := 0) (h := 0) cs3) cwl8 (by omega)
 have q38 := Chg.step (l := 0) (h := 0) q37 c36 (by omega)
 exact ⟨_, rfl, hr.mono (by omega) (by omega), q38⟩

theorem c_intAdd {w : World} {va : Value} {lva uva : Nat} {x : Int} {vb : Value} {lvb uvb : Nat} {y : Int} (hva : Sl w lva uva va (dg x.natAbs)) (hvb : Sl w lvb uvb vb (dg y.natAbs)) (hbx : (dg x.natAbs).length ≤ 1000) (hby : (dg y.natAbs).length ≤ 1000) :
  Ret Tryd.prog 97 [.agg #[.bool (ng x), va], .agg #[.bool (ng y), vb]] w fun v w' => ∃ s, v = .agg #[.bool (ng (x + y)), s] ∧ OwnI w' w.heap.size w'.heap.size s intT (dg (x + y).natAbs) ∧ Chg 0 0 w w' := by
 have hva0 := hva.fit
 have hvb0 := hvb.fit
 have l2 := len_add x.natAbs y.natAbs
 have l3 := len_le (Nat.sub_le x.natAbs y.natAbs)
 have l4 := len_le (Nat.sub_le y.natAbs x.natAbs)
 refine sx_enter Tryd.func97 rfl Tryd.ntmps97 (nbl rfl) ?_
 refine sx_seq fun K1 k1 => sx_region ?_
 refine sx_box [.bool (ng x), va] rfl rfl rfl (fun b2 w3 eb2 sb2 fb2 cb2 => ?_)
 have zw3 := cb2.size
 refine sx_box [.bool (ng y), vb] rfl rfl rfl (fun b4 w5 eb4 sb4 fb4 cb4 => ?_)
 have zw5 := cb4.size
 refine sx_alloc [.bool false, (.slice none 0 0)] rfl Tryd.zeroValue29 rfl (fun b6 w7 eb6 sb6 fb6 cb6 => ?_)
 have zw7 := cb6.size
 refine wl_nil (q_n (k1 _ _ ?_))
 refine sx_seq fun K8 k8 => ?_
 refine sx_seq fun K9 k9 => sx_region ?_
 refine sp rfl (px_field rfl xfld29x0) ?_
 have f10 := fb2.ext cb4
 have f11 := f10.ext cb6
 refine sp rfl (px_load rfl (f11.load1 rfl Tryd.isAgg4)) ?_
 refine sp rfl (px_field rfl xfld29x0) ?_
 have f12 := fb4.ext cb6
 refine sp rfl (px_load rfl (f12.load1 rfl Tryd.isAgg4)) ?_
 refine sp rfl (px_eqB Tryd.underlying4 rfl rfl) ?_
 refine wl_nil (q_n (k9 _ _ ?_))
 refine sx_condB rfl (fun h46 => ?_) (fun h46 => ?_)
 ·
  refine sx_seq fun K13 k13 => ?_
  have f14 := hva0.ext cb2
  have f15 := f14.ext cb4
  have f16 := f15.ext cb6
  have f17 := hvb0.ext cb2
  have f18 := f17.ext cb4
  have f19 := f18.ext cb6
  refine dx_region (fun w' => Chg b6 (b6 + 1) w7 w') (by kernel_rfl) (Chg.zero (Chg.drew _)) ?_
  have d20 := Chg.drew w7
  have s20 : Chg b6 (b6 + 1) w7 (World.drew w7) := Chg.zero (Chg.drew _)
  have y20 : (World.drew w7).heap.size = w7.heap.size := rfl
  generalize World.drew w7 = w20 at *
  have zw20 := d20.size
  refine dt 0 rfl rfl rfl rfl s20 (fun _ hS => px_field rfl xfld29x0) ?_
  refine dt 1 rfl rfl rfl rfl s20 (fun _ hS => px_load rfl ((f11.chg hS (by omega)).load1 rfl Tryd.isAgg4)) ?_
  refine dt 2 rfl rfl rfl rfl s20 (fun _ hS => px_field rfl xfld29x1) ?_
  refine dt 3 rfl rfl rfl rfl s20 (fun _ hS => px_load rfl ((f11.chg hS (by omega)).load1 rfl Tryd.isAgg22)) ?_
  refine dt 4 rfl rfl rfl rfl s20 (fun _ hS => px_field rfl xfld29x1) ?_
  refine dt 5 rfl rfl rfl rfl s20 (fun _ hS => px_load rfl ((f12.chg hS (by omega)).load1 rfl Tryd.isAgg22)) ?_
  refine dx_eff 6 rfl (by kernel_rfl) ?_
  have f21 := f16.ext d20
  have f22 := f19.ext d20
  refine sx_call rfl rfl Tryd.call119 (c_natAdd f21 f22 (by omega) (by omega)) (fun v23 w23 p23 => ?_)
  obtain ⟨s23, rfl, os_23, c23⟩ := p23
  have zw23 := c23.size
  have s24 : Chg b6 (b6 + 1) w7 w23 := (Chg.zero (l := b6) (h := (b6 + 1)) (d20.t c23))
  refine wl_nil ?_
  refine dx_next s24 ?_
  refine dx_eff 7 rfl (by kernel_rfl) ?_
  refine sx_call rfl rfl Tryd.call113 (c_signed os_23.sv (by omega)) (fun v25 w25 p25 => ?_)
  obtain ⟨rfl, c25⟩ := p25
  have zw25 := c25.size
  have s26 : Chg b6 (b6 + 1) w7 w25 := (Chg.zero (l := b6) (h := (b6 + 1)) ((d20.t c23).t c25))
  refine wl_nil ?_
  refine dx_next s26 ?_
  refine dx_eff 8 rfl (by kernel_rfl) ?_
  have f30 := ((fb6.ext d20).ext c23).ext c25
  have f31 := os_23.ext c25
  refine sx_store (vs := [.bool (nz (ng x) (dg (x.natAbs + y.natAbs))), v23]) rfl rfl f30 rfl Tryd.sizeOf29 (nbl rfl) (one_cons rfl (one_cons f31.one one_nil)) (fun w27 sw27 fw27 cw27 => ?_)
  have zw27 := cw27.size
  have gw27 : Blk w27 b6 [.bool (nz (ng x) (dg (x.natAbs + y.natAbs))), v23] 29 := fw27
  have q33 := Chg.step (l := b6) (h := (b6 + 1)) (Chg.zero (l := b6) (h := (b6 + 1)) ((d20.t c23).t c25)) cw27 (by omega)
  have s32 : Chg b6 (b6 + 1) w7 w27 := q33
  refine wl_nil ?_
  refine dx_next s32 ?_
  refine dx_done (by kernel_rfl) ?_
  refine q_n (k13 _ _ ?_)
  refine sx_sub (Sub.c 2 rfl (.c 3 rfl (.c 4 rfl .nil))) ?_
  refine sx_retc ?_
  refine q_r (sx_ret1 Tryd.results97 ⟨_, rfl, gw27.loadA (vs := [.bool (nz (ng x) (dg (x.natAbs + y.natAbs))), v23]) (look_lit rfl) Tryd.isAgg29 Tryd.sizeOf29⟩ ?_)
  have hh := add_sg h46
  rw [← hh.1, ← hh.2]
  have f34 := f31.chg cw27 (by omega)
  have q35 := Chg.step (l := 0) (h := 0) (Chg.zero (l := 0) (h := 0) (((((cb2.t cb4).t cb6).t d20).t c23).t c25)) cw27 (by omega)
  exact ⟨_, rfl, (Own.mono f34 (by omega) (by omega)), q35⟩
 refine sx_skip ?_
 refine q_n (k8 _ _ ?_)
 refine sx_seq fun K36 k36 => ?_
 refine sx_seq fun K37 k37 => sx_region ?_
 refine sp rfl (px_field rfl xfld29x1) ?_
 refine sp rfl (px_load rfl (f11.load1 rfl Tryd.isAgg22)) ?_
 refine sp rfl (px_field rfl xfld29x1) ?_
 refine sp rfl (px_load rfl (f12.load1 rfl Tryd.isAgg22)) ?_
 have f38 := hva0.ext cb2
 have f39 := f38.ext cb4
 have f40 := f39.ext cb6
 have f41 := hvb0.ext cb2
 have f42 := f41.ext cb4
 have f43 := f42.ext cb6
 refine sx_call rfl rfl Tryd.call120 (c_natCmp f40 f43 (by omega)) (fun v44 w44 p44 => ?_)
 obtain ⟨rfl, c44⟩ := p44
 have zw44 := c44.size
 refine sp rfl (px_lt rfl rfl) ?_
 refine wl_nil (q_n (k37 _ _ ?_))
 refine sx_sub (Sub.c 2 rfl (.c 3 rfl (.c 4 rfl (.c 23 rfl .nil)))) ?_
 refine sx_condP rfl (fun h49 => ?_) (fun h49 => ?_)
 ·
  rw [cmpL_dg] at h49
  have hlt := cmpN_neg.1 h49
  refine sx_region ?_
  have f45 := f12.ext c44
  refine sp rfl (px_load rfl (f45.loadA (vs := [.bool (ng y), vb]) (look_lit rfl) Tryd.isAgg29 Tryd.sizeOf29)) ?_
  have f46 := f11.ext c44
  refine sp rfl (px_load rfl (f46.loadA (vs := [.bool (ng x), va]) (look_lit rfl) Tryd.isAgg29 Tryd.sizeOf29)) ?_
  have f48 := f43.ext c44
  refine sx_store (vs := [.bool (ng y), vb]) rfl rfl f46 rfl Tryd.sizeOf29 (nbl rfl) (one_cons rfl (one_cons f48.one one_nil)) (fun w47 sw47 fw47 cw47 => ?_)
  have zw47 := cw47.size
  have gw47 : Blk w47 b2 [.bool (ng y), vb] 29 := fw47
  have f50 := f45.chg cw47 (by omega)
  have f52 := (f40.ext c44).chg cw47 (by omega)
  refine sx_store (vs := [.bool (ng x), va]) rfl rfl f50 rfl Tryd.sizeOf29 (nbl rfl) (one_cons rfl (one_cons f52.one one_nil)) (fun w49 sw49 fw49 cw49 => ?_)
  have zw49 := cw49.size
  have gw49 : Blk w49 b4 [.bool (ng x), va] 29 := fw49
  refine wl_nil (q_n (k36 _ _ ?_))
  refine sx_seq fun K53 k53 => ?_
  have f54 := gw47.chg cw49 (by omega)
  have f55 := f52.chg cw49 (by omega)
  have f56 := f48.chg cw47 (by omega)
  have f57 := f56.chg cw49 (by omega)
  refine dx_region (fun w' => Chg b6 (b6 + 1) w49 w') (by kernel_rfl) (Chg.zero (Chg.drew _)) ?_
  have d58 := Chg.drew w49
  have s58 : Chg b6 (b6 + 1) w49 (World.drew w49) := Chg.zero (Chg.drew _)
  have y58 : (World.drew w49).heap.size = w49.heap.size := rfl
  generalize World.drew w49 = w58 at *
  have zw58 := d58.size
  refine dt 0 rfl rfl rfl rfl s58 (fun _ hS => px_field rfl xfld29x0) ?_
  refine dt 1 rfl rfl rfl rfl s58 (fun _ hS => px_load rfl ((f54.chg hS (by omega)).load1 rfl Tryd.isAgg4)) ?_
  refine dt 2 rfl rfl rfl rfl s58 (fun _ hS => px_field rfl xfld29x1) ?_
  refine dt 3 rfl rfl rfl rfl s58 (fun _ hS => px_load rfl ((f54.chg hS (by omega)).load1 rfl Tryd.isAgg22)) ?_
  refine dt 4 rfl rfl rfl rfl s58 (fun _ hS => px_field rfl xfld29x1) ?_
  refine dt 5 rfl rfl rfl rfl s58 (fun _ hS => px_load rfl ((gw49.chg hS (by omega)).load1 rfl Tryd.isAgg22)) ?_
  refine dx_eff 6 rfl (by kernel_rfl) ?_
  have f59 := f57.ext d58
  have f60 := f55.ext d58
  refine sx_call rfl rfl Tryd.call121 (c_natSub f59 f60 (by omega) (by omega) (by omega)) (fun v61 w61 p61 => ?_)
  obtain ⟨s61, rfl, os_61, c61⟩ := p61
  have zw61 := c61.size
  have s62 : Chg b6 (b6 + 1) w49 w61 := (Chg.zero (l := b6) (h := (b6 + 1)) (d58.t c61))
  refine wl_nil ?_
  refine dx_next s62 ?_
  refine dx_eff 7 rfl (by kernel_rfl) ?_
  refine sx_call rfl rfl Tryd.call113 (c_signed os_61.sv (by omega)) (fun v63 w63 p63 => ?_)
  obtain ⟨rfl, c63⟩ := p63
  have zw63 := c63.size
  have s64 : Chg b6 (b6 + 1) w49 w63 := (Chg.zero (l := b6) (h := (b6 + 1)) ((d58.t c61).t c63))
  refine wl_nil ?_
  refine dx_next s64 ?_
  refine dx_eff 8 rfl (by kernel_rfl) ?_
  have f67 := (fb6.ext c44).chg cw47 (by omega)
  have f68 := f67.chg cw49 (by omega)
  have f71 := ((f68.ext d58).ext c61).ext c63
  have f72 := os_61.ext c63
  refine sx_store (vs := [.bool (nz (ng y) (dg (y.natAbs - x.natAbs))), v61]) rfl rfl f71 rfl Tryd.sizeOf29 (nbl rfl) (one_cons rfl (one_cons f72.one one_nil)) (fun w65 sw65 fw65 cw65 => ?_)
  have zw65 := cw65.size
  have gw65 : Blk w65 b6 [.bool (nz (ng y) (dg (y.natAbs - x.natAbs))), v61] 29 := fw65
  have q74 := Chg.step (l := b6) (h := (b6 + 1)) (Chg.zero (l := b6) (h := (b6 + 1)) ((d58.t c61).t c63)) cw65 (by omega)
  have s73 : Chg b6 (b6 + 1) w49 w65 := q74
  refine wl_nil ?_
  refine dx_next s73 ?_
  refine dx_done (by kernel_rfl) ?_
  refine q_n (k53 _ _ ?_)
  refine sx_retc ?_
  refine sx_ret1 Tryd.results97 ⟨_, rfl, gw65.loadA (vs := [.bool (nz (ng y) (dg (y.natAbs - x.natAbs))), v61]) (look_lit rfl) Tryd.isAgg29 Tryd.sizeOf29⟩ ?_
  have hh := (sub_sg2 h46 (by omega))
  rw [← hh.1, ← hh.2]
  have f75 := f72.chg cw65 (by omega)
  have q76 := Chg.step (l := 0) (h := 0) (Chg.zero (l := 0) (h := 0) (((cb2.t cb4).t cb6).t c44)) cw47 (by omega)
  have q77 := Chg.step (l := 0) (h := 0) q76 cw49 (by omega)
  have q78 := Chg.step (l := 0) (h := 0) q77 ((d58.t c61).t c63) (by omega)
  have q79 := Chg.step (l := 0) (h := 0) q78 cw65 (by omega)
  exact ⟨_, rfl, (Own.mono f75 (by omega) (by omega)), q79⟩
 rw [cmpL_dg] at h49
 have hge := cmpN_nonneg.1 (Int.not_lt.1 h49)
 refine sx_skip ?_
 refine q_n (k36 _ _ ?_)
 refine sx_seq fun K80 k80 => ?_
 have f81 := f11.ext c44
 have f82 := f12.ext c44
 refine dx_region (fun w' => Chg b6 (b6 + 1) w44 w') (by kernel_rfl) (Chg.zero (Chg.drew _)) ?_
 have d85 := Chg.drew w44
 have s85 : Chg b6 (b6 + 1) w44 (World.drew w44) := Chg.zero (Chg.drew _)
 have y85 : (World.drew w44).heap.size = w44.heap.size := rfl
 generalize World.drew w44 = w85 at *
 have zw85 := d85.size
 refine dt 0 rfl rfl rfl rfl s85 (fun _ hS => px_field rfl xfld29x0) ?_
 refine dt 1 rfl rfl rfl rfl s85 (fun _ hS => px_load rfl ((f81.chg hS (by omega)).load1 rfl Tryd.isAgg4)) ?_
 refine dt 2 rfl rfl rfl rfl s85 (fun _ hS => px_field rfl xfld29x1) ?_
 refine dt 3 rfl rfl rfl rfl s85 (fun _ hS => px_load rfl ((f81.chg hS (by omega)).load1 rfl Tryd.isAgg22)) ?_
 refine dt 4 rfl rfl rfl rfl s85 (fun _ hS => px_field rfl xfld29x1) ?_
 refine dt 5 rfl rfl rfl rfl s85 (fun _ hS => px_load rfl ((f82.chg hS (by omega)).load1 rfl Tryd.isAgg22)) ?_
 refine dx_eff 6 rfl (by kernel_rfl) ?_
 have f86 := (f40.ext c44).ext d85
 have f87 := (f43.ext c44).ext d85
 refine sx_call rfl rfl Tryd.call121 (c_natSub f86 f87 (by omega) (by omega) (by omega)) (fun v88 w88 p88 => ?_)
 obtain ⟨s88, rfl, os_88, c88⟩ := p88
 have zw88 := c88.size
 have s89 : Chg b6 (b6 + 1) w44 w88 := (Chg.zero (l := b6) (h := (b6 + 1)) (d85.t c88))
 refine wl_nil ?_
 refine dx_next s89 ?_
 refine dx_eff 7 rfl (by kernel_rfl) ?_
 refine sx_call rfl rfl Tryd.call113 (c_signed os_88.sv (by omega)) (fun v90 w90 p90 => ?_)
 obtain ⟨rfl, c90⟩ := p90
 have zw90 := c90.size
 have s91 : Chg b6 (b6 + 1) w44 w90 := (Chg.zero (l := b6) (h := (b6 + 1)) ((d85.t c88).t c90))
 refine wl_nil ?_
 refine dx_next s91 ?_
 refine dx_eff 8 rfl (by kernel_rfl) ?_
 have f96 := (((fb6.ext c44).ext d85).ext c88).ext c90
 have f97 := os_88.ext c90
 refine sx_store (vs := [.bool (nz (ng x) (dg (x.natAbs - y.natAbs))), v88]) rfl rfl f96 rfl Tryd.sizeOf29 (nbl rfl) (one_cons rfl (one_cons f97.one one_nil)) (fun w92 sw92 fw92 cw92 => ?_)
 have zw92 := cw92.size
 have gw92 : Blk w92 b6 [.bool (nz (ng x) (dg (x.natAbs - y.natAbs))), v88] 29 := fw92
 have q99 := Chg.step (l := b6) (h := (b6 + 1)) (Chg.zero (l := b6) (h := (b6 + 1)) ((d85.t c88).t c90)) cw92 (by omega)
 have s98 : Chg b6 (b6 + 1) w44 w92 := q99
 refine wl_nil ?_
 refine dx_next s98 ?_
 refine dx_done (by kernel_rfl) ?_
 refine q_n (k80 _ _ ?_)
 refine sx_retc ?_
 refine sx_ret1 Tryd.results97 ⟨_, rfl, gw92.loadA (vs := [.bool (nz (ng x) (dg (x.natAbs - y.natAbs))), v88]) (look_lit rfl) Tryd.isAgg29 Tryd.sizeOf29⟩ ?_
 have hh := sub_sg h46 hge
 rw [← hh.1, ← hh.2]
 have f100 := f97.chg cw92 (by omega)
 have q101 := Chg.step (l := 0) (h := 0) (Chg.zero (l := 0) (h := 0) ((((((cb2.t cb4).t cb6).t c44).t d85).t c88).t c90)) cw92 (by omega)
 exact ⟨_, rfl, (Own.mono f100 (by omega) (by omega)), q101⟩

theorem c_moneyOf {w : World} {c : ByteArray} {va : Value} {lva uva : Nat} {x : Int} (hG0 : Glob w) (hva : OwnI w lva uva va intT (dg x.natAbs)) (hbx : (dg x.natAbs).length ≤ 1000) (hu : uva ≤ w.heap.size) :
  Ret Tryd.prog 75 [.string c, .agg #[.bool (ng x), va]] w fun v w' => ∃ s, v = .tuple #[.agg #[.string ((mR c x).1), .bool ((mR c x).2.1), s], .bool ((mR c x).2.2.2)] ∧ OwnI w' (lva) (uva) s intT ((mR c x).2.2.1) ∧ Chg 0 0 w w' := by
 refine sx_enter Tryd.func75 rfl Tryd.ntmps75 (nbl rfl) ?_
 refine sx_seq fun K1 k1 => sx_region ?_
 refine sx_box [.bool (ng x), va] rfl rfl rfl (fun b2 w3 eb2 sb2 fb2 cb2 => ?_)
 have zw3 := cb2.size
 refine sx_alloc [.string (⟨#[]⟩), .bool false, (.slice none 0 0)] rfl Tryd.zeroValue31 rfl (fun b4 w5 eb4 sb4 fb4 cb4 => ?_)
 have zw5 := cb4.size
 refine av rfl rfl (wl_nil (q_n (k1 _ _ ?_)))
 refine sx_seq fun K6 k6 => ?_
 refine sx_seq fun K7 k7 => sx_region ?_
 refine mv rfl rfl ?_
 have f8 := fb2.ext cb4
 refine sp rfl (px_load rfl (f8.loadA (vs := [.bool (ng x), va]) (look_lit rfl) Tryd.isAgg29 Tryd.sizeOf29)) ?_
 refine sp rfl (px_build rfl (xbld31x0x1 rfl _)) ?_
 refine sx_alloc [.string (⟨#[]⟩), .bool false, (.slice none 0 0)] rfl Tryd.zeroValue31 rfl (fun b9 w10 eb9 sb9 fb9 cb9 => ?_)
 have zw10 := cb9.size
 have f12 := hva.ext cb2
 have f13 := f12.ext cb4
 have f14 := f13.ext cb9
 refine sx_store (vs := [.string c, .bool (ng x), va]) rfl rfl fb9 rfl Tryd.sizeOf31 (nbl rfl) (one_cons rfl (one_cons rfl (one_cons f14.one one_nil))) (fun w11 sw11 fw11 cw11 => ?_)
 have zw11 := cw11.size
 have gw11 : Blk w11 b9 [.string c, .bool (ng x), va] 31 := fw11
 refine wl_nil (q_n (k7 _ _ ?_))
 refine sx_seq fun K15 k15 => sx_region ?_
 refine sp rfl (px_load rfl (gw11.loadA (vs := [.string c, .bool (ng x), va]) (look_lit rfl) Tryd.isAgg31 Tryd.sizeOf31)) ?_
 have f16 := hG0.ext cb2
 have f17 := f16.ext cb4
 have f18 := f17.ext cb9
 have f19 := f18.chg cw11 (by omega)
 have f20 := f14.chg cw11 (by omega)
 refine sx_call rfl rfl Tryd.call18 (c_iMoneyOk f19 f20.sv (by omega)) (fun v21 w21 p21 => ?_)
 obtain ⟨rfl, c21⟩ := p21
 have zw21 := c21.size
 refine wl_nil (q_n (k15 _ _ ?_))
 refine sx_condP rfl (fun h19 => ?_) (fun h19 => ?_)
 ·
  refine sx_seq fun K22 k22 => sx_region ?_
  have f23 := gw11.ext c21
  refine sp rfl (px_load rfl (f23.loadA (vs := [.string c, .bool (ng x), va]) (look_lit rfl) Tryd.isAgg31 Tryd.sizeOf31)) ?_
  have f25 := fb4.ext cb9
  have f26 := f25.chg cw11 (by omega)
  have f27 := f26.ext c21
  have f28 := f20.ext c21
  refine sx_store (vs := [.string c, .bool (ng x), va]) rfl rfl f27 rfl Tryd.sizeOf31 (nbl rfl) (one_cons rfl (one_cons rfl (one_cons f28.one one_nil))) (fun w24 sw24 fw24 cw24 => ?_)
  have zw24 := cw24.size
  have gw24 : Blk w24 b4 [.string c, .bool (ng x), va] 31 := fw24
  refine av rfl rfl (wl_nil (q_n (k22 _ _ ?_)))
  refine sx_retc ?_
  refine q_r (sx_ret2 Tryd.results75 ⟨_, rfl, gw24.loadA (vs := [.string c, .bool (ng x), va]) (look_lit rfl) Tryd.isAgg31 Tryd.sizeOf31⟩ rfl ?_)
  rw [mR_ok (by first | exact h19 | exact Decidable.not_not.1 h19)]
  have q29 := Chg.step (l := 0) (h := 0) (Chg.zero (l := 0) (h := 0) ((cb2.t cb4).t cb9)) cw11 (by omega)
  have q30 := Chg.step (l := 0) (h := 0) q29 c21 (by omega)
  have q31 := Chg.step (l := 0) (h := 0) q30 cw24 (by omega)
  have f32 := f28.chg cw24 (by omega)
  exact ⟨_, rfl, (Own.mono f32 (by omega) (by omega)), q31⟩
 refine sx_skip ?_
 refine q_n (k6 _ _ ?_)
 refine sx_seq fun K33 k33 => sx_region ?_
 refine sp rfl (px_build rfl (xbld31x  _)) ?_
 have f35 := fb4.ext cb9
 have f36 := f35.chg cw11 (by omega)
 have f37 := f36.ext c21
 refine sx_store (vs := [.string (⟨#[]⟩), .bool false, (.slice none 0 0)]) rfl rfl f37 rfl Tryd.sizeOf31 (nbl rfl) (o3 rfl rfl rfl) (fun w34 sw34 fw34 cw34 => ?_)
 have zw34 := cw34.size
 have gw34 : Blk w34 b4 [.string (⟨#[]⟩), .bool false, (.slice none 0 0)] 31 := fw34
 refine av rfl rfl (wl_nil (q_n (k33 _ _ ?_)))
 refine sx_retc ?_
 refine sx_ret2 Tryd.results75 ⟨_, rfl, gw34.loadA (vs := [.string (⟨#[]⟩), .bool false, (.slice none 0 0)]) (look_lit rfl) Tryd.isAgg31 Tryd.sizeOf31⟩ rfl ?_
 rw [mR_no (by first | exact h19 | assumption)]
 have q38 := Chg.step (l := 0) (h := 0) (Chg.zero (l := 0) (h := 0) ((cb2.t cb4).t cb9)) cw11 (by omega)
 have q39 := Chg.step (l := 0) (h := 0) q38 c21 (by omega)
 have q40 := Chg.step (l := 0) (h := 0) q39 cw34 (by omega)
 exact ⟨_, rfl, Own.nil _ _ _ _ _, q40⟩

theorem c_iMoneySum {w : World} {c : ByteArray} {vl : Value} {lvl uvl : Nat} {ts : List Mt} {vvl : List Value} (hG0 : Glob w) (hvl : MtS w lvl uvl vl ts vvl) (h63 : ts.length ≤ 4611686018427387904) (hz : ∀ i, i < ts.length → (ts.getD i mt0).2.2.length ≤ 4611686018427387904) :
  Ret Tryd.prog 54 [.string c, vl] w fun v w' => ∃ s, v = .tuple #[.agg #[.string ((msum c ts).1), .bool ((msum c ts).2.1), s], .bool ((msum c ts).2.2.2)] ∧ OwnI w' w.heap.size w'.heap.size s intT ((msum c ts).2.2.1) ∧ ((msum c ts).2.2.1.length ≤ 4) ∧ Chg 0 0 w w' := by
 have hvl0 := hvl.fit
 refine sx_enter Tryd.func54 rfl Tryd.ntmps54 (nbl rfl) ?_
 refine sx_seq fun K1 k1 => sx_region ?_
 refine sx_alloc [.string (⟨#[]⟩), .bool false, (.slice none 0 0)] rfl Tryd.zeroValue31 rfl (fun b2 w3 eb2 sb2 fb2 cb2 => ?_)
 have zw3 := cb2.size
 refine av rfl rfl (wl_nil (q_n (k1 _ _ ?_)))
 refine sx_seq fun K4 k4 => sx_region ?_
 refine sp rfl (px_build rfl (xbld29x  _)) ?_
 refine sx_alloc [.bool false, (.slice none 0 0)] rfl Tryd.zeroValue29 rfl (fun b5 w6 eb5 sb5 fb5 cb5 => ?_)
 have zw6 := cb5.size
 refine sx_store (vs := [.bool false, (.slice none 0 0)]) rfl rfl fb5 rfl Tryd.sizeOf29 (nbl rfl) (o2 rfl rfl) (fun w7 sw7 fw7 cw7 => ?_)
 have zw7 := cw7.size
 have gw7 : Blk w7 b5 [.bool false, (.slice none 0 0)] 29 := fw7
 refine wl_nil (q_n (k4 _ _ ?_))
 refine sx_seq fun K8 k8 => ?_
 refine sx_seq fun K9 k9 => sx_region ?_
 refine mv rfl rfl ?_
 have f10 := hvl0.ext cb2
 have f11 := f10.ext cb5
 have f12 := f11.chg cw7 (by omega)
 refine sp rfl (px_len rfl Tryd.underlying81 f12.sv) ?_
 refine mv rfl rfl (wl_nil (q_n (k9 _ _ ?_)))
 refine sx_block ?_
 have hbz : Blk w7 b5 [.bool (ng (0 : Int)), (.slice none 0 0)] 29 := gw7
 have hnz : OwnI w7 w7.heap.size w7.heap.size (.slice none 0 0) intT (dg (0 : Int).natAbs) := by rw [show (0 : Int).natAbs = 0 from rfl, dg_zero]; exact Own.nil _ _ _ _ _
 have f14 := fb2.ext cb5
 have f15 := f14.chg cw7 (by omega)
 refine sx_loop (fun mm aa w' => ∃ (k : Nat) (x : Int) (s : Value) (gl : Nat) (gh : Nat), Agr 36 [(0, .string c), (4, .pointer (some ⟨b2, 0, none⟩)), (5, .bool false), (6, .pointer (some ⟨b5, 0, none⟩)), (10, vl), (11, .int .i64 (↑(ts).length)), (12, .int .i64 ↑k)] aa ∧ Chg b5 (b5 + 1) w7 w' ∧ Blk w' b5 [.bool (ng (x)), s] 29 ∧ Blk w' b2 [.string (⟨#[]⟩), .bool false, (.slice none 0 0)] 31 ∧ Own w' gl gh s intT ((dg (x).natAbs).length) 1 ((dg (x).natAbs).map (Value.int .i64)) ∧ (mm = ts.length - k) ∧ (k ≤ ts.length) ∧ (x = sumTo ts k) ∧ (AllM c ts k) ∧ (w7.heap.size ≤ gl ∧ gh ≤ w'.heap.size)) (_) (fun a ha => ⟨0, (0 : Int), (.slice none 0 0), w7.heap.size, w7.heap.size, ha.sub (Sub.c 0 rfl (.c 4 rfl (.c 5 rfl (.c 6 rfl (.c 10 rfl (.c 11 (look_int (t := 11) rfl (by first | omega | simp)) (.c 12 (look_int (t := 12) rfl (by first | omega | simp)) .nil))))))), Chg.refl _ _ _, hbz, f15, hnz, rfl, by omega, rfl, AllM_zero c ts, ⟨Nat.le_refl _, Nat.le_refl _⟩⟩) ?_
 rintro mm aa wl13 ⟨k, x, s, gl, gh, hAwl13, cwl13, hb_b5, hb_b2, hs_s, hm, hk, hx, hall, hgl⟩
 refine (show cw Tryd.prog 36 _ _ _ wl13 from ?_) aa hAwl13
 clear hAwl13
 have zwl13 := cwl13.size
 have hsl := msumTo_len hall (by omega)
 rw [← hx] at hsl
 refine sx_seq fun K16 k16 => sx_region ?_
 refine sp rfl (px_lt rfl rfl) ?_
 refine wl_nil (q_n (k16 _ _ ?_))
 refine sx_seq fun K17 k17 => ?_
 refine sx_condP rfl (fun h120 => ?_) (fun h120 => ?_)
 ·
  refine sx_skip ?_
  refine q_n (k17 _ _ ?_)
  refine sx_seq fun K18 k18 => ?_
  refine sx_block ?_
  refine sx_seq fun K19 k19 => sx_region ?_
  have f20 := f12.chg cwl13 (by omega)
  refine sp rfl (px_indexK (j := k) rfl rfl (by omega) Tryd.underlying81 Tryd.sizeOf31 f20.sv (by omega)) ?_
  refine sp rfl (px_load rfl (f20.sv.loadA (mt_look f20.len (by omega)) Tryd.isAgg31 Tryd.sizeOf31)) ?_
  refine sx_alloc [.string (⟨#[]⟩), .bool false, (.slice none 0 0)] rfl Tryd.zeroValue31 rfl (fun b21 w22 eb21 sb21 fb21 cb21 => ?_)
  have zw22 := cb21.size
  have f24 := (f20.nest k (by omega)).ext cb21
  refine sx_store (vs := [.string ((ts.getD k mt0).1), .bool ((ts.getD k mt0).2.1), (vvl.getD k vz)]) rfl rfl fb21 rfl Tryd.sizeOf31 (nbl rfl) (one_cons rfl (one_cons rfl (one_cons f24.one one_nil))) (fun w23 sw23 fw23 cw23 => ?_)
  have zw23 := cw23.size
  have gw23 : Blk w23 b21 [.string ((ts.getD k mt0).1), .bool ((ts.getD k mt0).2.1), (vvl.getD k vz)] 31 := fw23
  refine wl_nil (q_n (k19 _ _ ?_))
  refine sx_seq fun K25 k25 => ?_
  refine sx_seq fun K26 k26 => sx_region ?_
  refine sp rfl (px_load rfl (gw23.loadA (vs := [.string ((ts.getD k mt0).1), .bool ((ts.getD k mt0).2.1), (vvl.getD k vz)]) (look_lit rfl) Tryd.isAgg31 Tryd.sizeOf31)) ?_
  have f27 := hG0.ext cb2
  have f28 := f27.ext cb5
  have f29 := f28.chg cw7 (by omega)
  have f30 := f29.chg cwl13 (by omega)
  have f31 := f30.ext cb21
  have f32 := f31.chg cw23 (by omega)
  have f33 := f24.chg cw23 (by omega)
  refine sx_call rfl rfl Tryd.call18 (c_iMoneyOk f32 f33 (hz k (by omega))) (fun v34 w34 p34 => ?_)
  obtain ⟨rfl, c34⟩ := p34
  have zw34 := c34.size
  refine sp rfl (px_notP rfl) ?_
  refine mv rfl rfl ?_
  refine sx_tmpP (t := 19) rfl (fun h121 => ?_) (fun h121 => ?_)
  ·
   refine sx_guardF rfl rfl rfl rfl rfl rfl ?_
   refine sx_guardF rfl rfl rfl rfl rfl rfl ?_
   refine sx_guardF rfl rfl rfl rfl rfl rfl ?_
   refine sx_guardF rfl rfl rfl rfl rfl rfl ?_
   refine sp rfl (px_pick rfl rfl) ?_
   refine wl_nil (q_n (k26 _ _ ?_))
   refine sx_sub (Sub.c 0 rfl (.c 4 rfl (.c 5 rfl (.c 6 rfl (.c 8 rfl (.c 10 rfl (.c 11 rfl (.c 12 rfl (.c 24 rfl .nil))))))))) ?_
   refine sx_condT rfl ?_
   refine sx_seq fun K35 k35 => sx_region ?_
   refine sp rfl (px_build rfl (xbld31x  _)) ?_
   have f37 := hb_b2.ext cb21
   have f38 := f37.chg cw23 (by omega)
   have f39 := f38.ext c34
   refine sx_store (vs := [.string (⟨#[]⟩), .bool false, (.slice none 0 0)]) rfl rfl f39 rfl Tryd.sizeOf31 (nbl rfl) (o3 rfl rfl rfl) (fun w36 sw36 fw36 cw36 => ?_)
   have zw36 := cw36.size
   have gw36 : Blk w36 b2 [.string (⟨#[]⟩), .bool false, (.slice none 0 0)] 31 := fw36
   refine av rfl rfl (wl_nil (q_n (k35 _ _ ?_)))
   refine sx_retc ?_
   refine q_r (q_br (q_r (q_r (q_br (q_r (sx_ret2 Tryd.results54 ⟨_, rfl, gw36.loadA (vs := [.string (⟨#[]⟩), .bool false, (.slice none 0 0)]) (look_lit rfl) Tryd.isAgg31 Tryd.sizeOf31⟩ rfl ?_))))))
   rw [msum_no (k := k) (by omega) (fun hh => by first | exact h121 hh.1 | exact h121x1 hh.2)]
   have q40 := Chg.step (l := 0) (h := 0) (Chg.zero (l := 0) (h := 0) (cb2.t cb5)) cw7 (by omega)
   have q41 := Chg.step (l := 0) (h := 0) q40 cwl13 (by omega)
   have q42 := Chg.step (l := 0) (h := 0) q41 cb21 (by omega)
   have q43 := Chg.step (l := 0) (h := 0) q42 cw23 (by omega)
   have q44 := Chg.step (l := 0) (h := 0) q43 c34 (by omega)
   have q45 := Chg.step (l := 0) (h := 0) q44 cw36 (by omega)
   exact ⟨_, rfl, Own.nil _ _ _ _ _, by simp [noM], q45⟩
  refine sx_guardT rfl rfl rfl ?_
  refine sp rfl (px_field rfl xfld31x0) ?_
  refine sx_guardT rfl rfl rfl ?_
  have f46 := gw23.ext c34
  refine sp rfl (px_load rfl (f46.load1 rfl Tryd.isAgg9)) ?_
  refine sx_guardT rfl rfl rfl ?_
  refine mv rfl rfl ?_
  refine sx_guardT rfl rfl rfl ?_
  refine sp rfl (px_neS rfl rfl) ?_
  refine sp rfl (px_pick rfl rfl) ?_
  refine wl_nil (q_n (k26 _ _ ?_))
  refine sx_sub (Sub.c 0 rfl (.c 4 rfl (.c 5 rfl (.c 6 rfl (.c 8 rfl (.c 10 rfl (.c 11 rfl (.c 12 rfl (.c 24 rfl .nil))))))))) ?_
  refine sx_condP rfl (fun h121x1 => ?_) (fun h121x1 => ?_)
  ·
   refine sx_seq fun K47 k47 => sx_region ?_
   refine sp rfl (px_build rfl (xbld31x  _)) ?_
   have f49 := hb_b2.ext cb21
   have f50 := f49.chg cw23 (by omega)
   have f51 := f50.ext c34
   refine sx_store (vs := [.string (⟨#[]⟩), .bool false, (.slice none 0 0)]) rfl rfl f51 rfl Tryd.sizeOf31 (nbl rfl) (o3 rfl rfl rfl) (fun w48 sw48 fw48 cw48 => ?_)
   have zw48 := cw48.size
   have gw48 : Blk w48 b2 [.string (⟨#[]⟩), .bool false, (.slice none 0 0)] 31 := fw48
   refine av rfl rfl (wl_nil (q_n (k47 _ _ ?_)))
   refine sx_retc ?_
   refine q_r (q_br (q_r (q_r (q_br (q_r (sx_ret2 Tryd.results54 ⟨_, rfl, gw48.loadA (vs := [.string (⟨#[]⟩), .bool false, (.slice none 0 0)]) (look_lit rfl) Tryd.isAgg31 Tryd.sizeOf31⟩ rfl ?_))))))
   rw [msum_no (k := k) (by omega) (fun hh => by first | exact h121 hh.1 | exact h121x1 hh.2)]
   have q52 := Chg.step (l := 0) (h := 0) (Chg.zero (l := 0) (h := 0) (cb2.t cb5)) cw7 (by omega)
   have q53 := Chg.step (l := 0) (h := 0) q52 cwl13 (by omega)
   have q54 := Chg.step (l := 0) (h := 0) q53 cb21 (by omega)
   have q55 := Chg.step (l := 0) (h := 0) q54 cw23 (by omega)
   have q56 := Chg.step (l := 0) (h := 0) q55 c34 (by omega)
   have q57 := Chg.step (l := 0) (h := 0) q56 cw48 (by omega)
   exact ⟨_, rfl, Own.nil _ _ _ _ _, by simp [noM], q57⟩
  have hM := Decidable.not_not.1 h121
  have hC := Decidable.not_not.1 h121x1
  obtain ⟨y, hy1, hy2, hy⟩ := hM.int
  have hla := len_addI x y
  have f58 := f33.ext c34
  have f59 := f58
  rw [hy2] at f59
  have f60 := f46
  rw [hy1] at f60
  refine sx_skip ?_
  refine q_n (k25 _ _ ?_)
  refine sx_region ?_
  have f61 := hb_b5.ext cb21
  have f62 := f61.chg cw23 (by omega)
  have f63 := f62.ext c34
  refine sp rfl (px_load rfl (f63.loadA (vs := [.bool (ng (x)), s]) (look_lit rfl) Tryd.isAgg29 Tryd.sizeOf29)) ?_
  refine sp rfl (px_field rfl xfld31x1) ?_
  refine sp rfl (px_load rfl (f60.loadA (vs := [.bool (ng y), (vvl.getD k vz)]) (look_lit rfl) Tryd.isAgg29 Tryd.sizeOf29)) ?_
  have f64 := hs_s.ext cb21
  have f65 := f64.chg cw23 (by omega)
  have f66 := f65.ext c34
  refine sx_call rfl rfl Tryd.call97 (c_intAdd f66.sv f59 (by omega) (by omega)) (fun v67 w67 p67 => ?_)
  obtain ⟨s67, rfl, os_67, c67⟩ := p67
  have zw67 := c67.size
  have f69 := f63.ext c67
  refine sx_store (vs := [.bool (ng ((x) + (y))), s67]) rfl rfl f69 rfl Tryd.sizeOf29 (nbl rfl) (one_cons rfl (one_cons os_67.one one_nil)) (fun w68 sw68 fw68 cw68 => ?_)
  have zw68 := cw68.size
  have gw68 : Blk w68 b5 [.bool (ng ((x) + (y))), s67] 29 := fw68
  refine wl_nil ?_
  refine q_bn (q_n (k18 _ _ ?_))
  refine sx_region ?_
  refine sp rfl (px_add rfl rfl (by omega)) ?_
  refine mv rfl rfl (wl_nil ?_)
  have q70 := Chg.step (l := b5) (h := (b5 + 1)) cwl13 cb21 (by omega)
  have q71 := Chg.step (l := b5) (h := (b5 + 1)) q70 cw23 (by omega)
  have q72 := Chg.step (l := b5) (h := (b5 + 1)) q71 (c34.t c67) (by omega)
  have q73 := Chg.step (l := b5) (h := (b5 + 1)) q72 cw68 (by omega)
  have f74 := hb_b2.ext cb21
  have f75 := f74.chg cw23 (by omega)
  have f78 := ((f75.ext c34).ext c67).chg cw68 (by omega)
  have f79 := os_67.chg cw68 (by omega)
  exact fun a ha => ⟨_, by omega, (k + 1), (x + y), s67, w34.heap.size, w67.heap.size, ha.sub (Sub.c 0 rfl (.c 4 rfl (.c 5 rfl (.c 6 rfl (.c 10 rfl (.c 11 rfl (.c 12 (look_int (t := 12) rfl (by first | omega | simp)) .nil))))))), q73, gw68, f78, (f79.mono (by omega) (by omega)), rfl, by omega, by show x + y = sumTo ts k + vI _ _; rw [hx, hy1, hy2, vI_ng], AllM_succ hall hM hC, by omega⟩
 refine sx_exit ?_
 refine q_e (q_e (q_bx (q_n (k8 _ _ ?_))))
 refine sx_seq fun K80 k80 => sx_region ?_
 refine mv rfl rfl (sp rfl (px_load rfl (hb_b5.loadA (vs := [.bool (ng (x)), s]) (look_lit rfl) Tryd.isAgg29 Tryd.sizeOf29)) ?_)
 have f81 := hG0.ext cb2
 have f82 := f81.ext cb5
 have f83 := f82.chg cw7 (by omega)
 have f84 := f83.chg cwl13 (by omega)
 refine sx_call rfl rfl Tryd.call75 (c_moneyOf f84 hs_s (by omega) (by omega)) (fun v85 w85 p85 => ?_)
 obtain ⟨s85, rfl, os_85, c85⟩ := p85
 have zw85 := c85.size
 refine sp rfl (px_ex2 rfl rfl) ?_
 refine sp rfl (px_ex2 rfl rfl) ?_
 have f87 := hb_b2.ext c85
 refine sx_store (vs := [.string ((mR c (x)).1), .bool ((mR c (x)).2.1), s85]) rfl rfl f87 rfl Tryd.sizeOf31 (nbl rfl) (one_cons rfl (one_cons rfl (one_cons os_85.one one_nil))) (fun w86 sw86 fw86 cw86 => ?_)
 have zw86 := cw86.size
 have gw86 : Blk w86 b2 [.string ((mR c (x)).1), .bool ((mR c (x)).2.1), s85] 31 := fw86
 refine av rfl rfl (wl_nil (q_n (k80 _ _ ?_)))
 refine sx_retc ?_
 refine sx_ret2 Tryd.results54 ⟨_, rfl, gw86.loadA (vs := [.string ((mR c (x)).1), .bool ((mR c (x)).2.1), s85]) (look_lit rfl) Tryd.isAgg31 Tryd.sizeOf31⟩ rfl ?_
 have ek : k = ts.length := by omega
 subst ek
 rw [msum_ok hall, ← hx]
 have q88 := Chg.step (l := 0) (h := 0) (Chg.zero (l := 0) (h := 0) (cb2.t cb5)) cw7 (by omega)
 have q89 := Chg.step (l := 0) (h := 0) q88 cwl13 (by omega)
 have q90 := Chg.step (l := 0) (h := 0) q89 c85 (by omega)
 have q91 := Chg.step (l := 0) (h := 0) q90 cw86 (by omega)
 have f92 := os_85.chg cw86 (by omega)
 exact ⟨_, rfl, (Own.mono f92 (by omega) (by omega)), mR_len, q91⟩

theorem c_eqIntS {w : World} {va : Value} {lva uva : Nat} {zs : List Int} {vb : Value} {lvb uvb : Nat} {ys : List Int} (hva : Sl w lva uva va (zs)) (hvb : Sl w lvb uvb vb (ys)) (h63 : zs.length ≤ 4611686018427387904 ∧ ys.length ≤ 4611686018427387904) :
  Ret Tryd.prog 68 [va, vb] w fun v w' => v = .bool (decide (zs = ys)) ∧ Chg 0 0 w w' := by
 have hva0 := hva.fit
 have hvb0 := hvb.fit
 have hneq : zs.length ≠ ys.length → zs ≠ ys := fun h e => h (by rw [e])
 refine sx_enter Tryd.func68 rfl Tryd.ntmps68 (nbl rfl) ?_
 refine sx_seq fun K1 k1 => sx_region ?_
 refine av rfl rfl (wl_nil (q_n (k1 _ _ ?_)))
 refine sx_seq fun K2 k2 => ?_
 refine sx_seq fun K3 k3 => sx_region ?_
 refine mv rfl rfl (sp rfl (px_len rfl Tryd.underlying22 hva0) ?_)
 refine mv rfl rfl (sp rfl (px_len rfl Tryd.underlying22 hvb0) ?_)
 refine sp rfl (px_ne rfl rfl) ?_
 refine wl_nil (q_n (k3 _ _ ?_))
 refine sx_condP rfl (fun h210 => ?_) (fun h210 => ?_)
 ·
  refine sx_seq fun K4 k4 => sx_region ?_
  refine av rfl rfl (wl_nil (q_n (k4 _ _ ?_)))
  refine sx_retc ?_
  refine q_r (sx_ret1 Tryd.results68 rfl ?_)
  exact ⟨bFalse (hneq (by omega)), (Chg.refl 0 0 _)⟩
 refine sx_skip ?_
 refine q_n (k2 _ _ ?_)
 refine sx_seq fun K5 k5 => ?_
 refine sx_seq fun K6 k6 => sx_region ?_
 refine av rfl rfl (wl_nil (q_n (k6 _ _ ?_)))
 refine sx_block ?_
 refine sx_loop (fun mm aa w' => ∃ (k : Nat), Agr 26 [(0, va), (1, vb), (5, .int .i64 ↑k)] aa ∧ Chg 0 0 w w' ∧ (mm = zs.length - k) ∧ (k ≤ zs.length) ∧ (zs.take k = ys.take k)) (_) (fun a ha => ⟨0, ha.sub (Sub.c 0 rfl (.c 1 rfl (.c 5 (look_int (t := 5) rfl (by first | omega | simp)) .nil))), Chg.refl _ _ _, rfl, by omega, by simp⟩) ?_
 rintro mm aa wl7 ⟨k, hAwl7, cwl7, hm, hk, he⟩
 refine (show cw Tryd.prog 26 _ _ _ wl7 from ?_) aa hAwl7
 clear hAwl7
 have zwl7 := cwl7.size
 refine sx_seq fun K8 k8 => ?_
 refine sx_seq fun K9 k9 => sx_region ?_
 refine mv rfl rfl (mv rfl rfl ?_)
 have f10 := hva0.ext cwl7
 refine sp rfl (px_len rfl Tryd.underlying22 f10) ?_
 refine sp rfl (px_lt rfl rfl) ?_
 refine wl_nil (q_n (k9 _ _ ?_))
 refine sx_condP rfl (fun h213 => ?_) (fun h213 => ?_)
 ·
  refine sx_skip ?_
  refine q_n (k8 _ _ ?_)
  refine sx_seq fun K11 k11 => ?_
  refine sx_block ?_
  refine sx_seq fun K12 k12 => ?_
  have f13 := hvb0.ext cwl7
  refine dx_region (fun w' => Chg 0 0 wl7 w') (by kernel_rfl) (Chg.zero (Chg.drew _)) ?_
  have d14 := Chg.drew wl7
  have s14 : Chg 0 0 wl7 (World.drew wl7) := Chg.zero (Chg.drew _)
  have y14 : (World.drew wl7).heap.size = wl7.heap.size := rfl
  generalize World.drew wl7 = w14 at *
  have zw14 := d14.size
  refine dt 0 rfl rfl rfl rfl s14 (fun _ hS => px_move rfl) ?_
  refine dt 1 rfl rfl rfl rfl s14 (fun _ hS => px_move rfl) ?_
  refine dt 2 rfl rfl rfl rfl s14 (fun _ hS => px_index1 (j := k) rfl rfl (by omega) Tryd.underlying22 Tryd.sizeOf3 ((f10).chg hS (by omega)) (by omega)) ?_
  refine dt 3 rfl rfl rfl rfl s14 (fun _ hS => px_load rfl (((f10).chg hS (by omega)).load1 (at_int (by omega)) Tryd.isAgg3)) ?_
  refine dt 4 rfl rfl rfl rfl s14 (fun _ hS => px_move rfl) ?_
  refine dt 5 rfl rfl rfl rfl s14 (fun _ hS => px_move rfl) ?_
  refine dt 6 rfl rfl rfl rfl s14 (fun _ hS => px_index1 (j := k) rfl rfl (by omega) Tryd.underlying22 Tryd.sizeOf3 ((f13).chg hS (by omega)) (by omega)) ?_
  refine dt 7 rfl rfl rfl rfl s14 (fun _ hS => px_load rfl (((f13).chg hS (by omega)).load1 (at_int (by omega)) Tryd.isAgg3)) ?_
  refine dt 8 rfl rfl rfl rfl s14 (fun _ hS => px_ne rfl rfl) ?_
  refine dx_done (by kernel_rfl) ?_
  refine q_n (k12 _ _ ?_)
  refine sx_sub (Sub.c 0 rfl (.c 1 rfl (.c 5 rfl (.c 25 rfl .nil)))) ?_
  refine sx_condP rfl (fun h214 => ?_) (fun h214 => ?_)
  ·
   refine sx_seq fun K15 k15 => sx_region ?_
   refine av rfl rfl (wl_nil (q_n (k15 _ _ ?_)))
   refine sx_retc ?_
   refine q_br (q_r (q_r (q_br (q_r (sx_ret1 Tryd.results68 rfl ?_)))))
   exact ⟨bFalse (ne_of_getD h214), (cwl7.t d14)⟩
  refine sx_skip ?_
  refine q_bn (q_n (k11 _ _ ?_))
  refine sx_region ?_
  refine mv rfl rfl (sp rfl (px_add rfl rfl (by omega)) ?_)
  refine av rfl rfl (wl_nil ?_)
  exact fun a ha => ⟨_, by omega, (k + 1), ha.sub (Sub.c 0 rfl (.c 1 rfl (.c 5 (look_int (t := 5) rfl (by first | omega | simp)) .nil))), (cwl7.t d14), rfl, by omega, take_succ_eq he (by omega) (by omega) (Decidable.not_not.1 h214)⟩
 refine sx_exit ?_
 refine q_e (q_e (q_bx (q_n (k5 _ _ ?_))))
 refine sx_seq fun K16 k16 => sx_region ?_
 refine av rfl rfl (wl_nil (q_n (k16 _ _ ?_)))
 refine sx_retc ?_
 refine sx_ret1 Tryd.results68 rfl ?_
 have e1 : k = zs.length := by omega
 rw [e1, List.take_length, List.take_of_length_le (by omega)] at he
 exact ⟨bTrue he, cwl7⟩

theorem c_eqSigned {w : World} {n1 : Bool} {v1 : Value} {lv1 uv1 : Nat} {z1 : List Int} {n2 : Bool} {v2 : Value} {lv2 uv2 : Nat} {z2 : List Int} (hv1 : Sl w lv1 uv1 v1 (z1)) (hv2 : Sl w lv2 uv2 v2 (z2)) (h63 : z1.length ≤ 4611686018427387904 ∧ z2.length ≤ 4611686018427387904) :
  Ret Tryd.prog 63 [.agg #[.bool n1, v1], .agg #[.bool n2, v2]] w fun v w' => v = .bool (decide (n1 = n2 ∧ z1 = z2)) ∧ Chg 0 0 w w' := by
 have hv10 := hv1.fit
 have hv20 := hv2.fit
 refine sx_enter Tryd.func63 rfl Tryd.ntmps63 (nbl rfl) ?_
 refine sx_seq fun K1 k1 => sx_region ?_
 refine sx_box [.bool n1, v1] rfl rfl rfl (fun b2 w3 eb2 sb2 fb2 cb2 => ?_)
 have zw3 := cb2.size
 refine sx_box [.bool n2, v2] rfl rfl rfl (fun b4 w5 eb4 sb4 fb4 cb4 => ?_)
 have zw5 := cb4.size
 refine av rfl rfl (wl_nil (q_n (k1 _ _ ?_)))
 refine sx_seq fun K6 k6 => ?_
 refine sx_seq fun K7 k7 => sx_region ?_
 refine sp rfl (px_field rfl xfld29x0) ?_
 have f8 := fb2.ext cb4
 refine sp rfl (px_load rfl (f8.load1 rfl Tryd.isAgg4)) ?_
 refine sp rfl (px_field rfl xfld29x0) ?_
 refine sp rfl (px_load rfl (fb4.load1 rfl Tryd.isAgg4)) ?_
 refine sp rfl (px_neB Tryd.underlying4 rfl rfl) ?_
 refine wl_nil (q_n (k7 _ _ ?_))
 refine sx_condB rfl (fun h263 => ?_) (fun h263 => ?_)
 ·
  refine sx_seq fun K9 k9 => sx_region ?_
  refine av rfl rfl (wl_nil (q_n (k9 _ _ ?_)))
  refine sx_retc ?_
  refine q_r (sx_ret1 Tryd.results63 rfl ?_)
  exact ⟨(by first | exact bTrue (by grind) | exact bFalse (by grind) | exact bIff (by grind)), (cb2.t cb4)⟩
 refine sx_skip ?_
 refine q_n (k6 _ _ ?_)
 refine sx_seq fun K10 k10 => ?_
 refine sx_seq fun K11 k11 => sx_region ?_
 refine sp rfl (px_field rfl xfld29x1) ?_
 refine sp rfl (px_load rfl (f8.load1 rfl Tryd.isAgg22)) ?_
 refine sp rfl (px_field rfl xfld29x1) ?_
 refine sp rfl (px_load rfl (fb4.load1 rfl Tryd.isAgg22)) ?_
 have f12 := hv10.ext cb2
 have f13 := f12.ext cb4
 have f14 := hv20.ext cb2
 have f15 := f14.ext cb4
 refine sx_call rfl rfl Tryd.call68 (c_eqIntS f13 f15 (by omega)) (fun v16 w16 p16 => ?_)
 obtain ⟨rfl, c16⟩ := p16
 have zw16 := c16.size
 refine sp rfl (px_notP rfl) ?_
 refine wl_nil (q_n (k11 _ _ ?_))
 refine sx_sub (Sub.c 4 rfl (.c 15 rfl .nil)) ?_
 refine sx_condP rfl (fun h266 => ?_) (fun h266 => ?_)
 ·
  refine sx_seq fun K17 k17 => sx_region ?_
  refine av rfl rfl (wl_nil (q_n (k17 _ _ ?_)))
  refine sx_retc ?_
  refine q_r (sx_ret1 Tryd.results63 rfl ?_)
  exact ⟨(by first | exact bTrue (by grind) | exact bFalse (by grind) | exact bIff (by grind)), ((cb2.t cb4).t c16)⟩
 refine sx_skip ?_
 refine q_n (k10 _ _ ?_)
 refine sx_seq fun K18 k18 => sx_region ?_
 refine av rfl rfl (wl_nil (q_n (k18 _ _ ?_)))
 refine sx_retc ?_
 refine sx_ret1 Tryd.results63 rfl ?_
 exact ⟨(by first | exact bTrue (by grind) | exact bFalse (by grind) | exact bIff (by grind)), ((cb2.t cb4).t c16)⟩

theorem c_eqMoney {w : World} {c1 : ByteArray} {n1 : Bool} {v1 : Value} {lv1 uv1 : Nat} {z1 : List Int} {c2 : ByteArray} {n2 : Bool} {v2 : Value} {lv2 uv2 : Nat} {z2 : List Int} (hv1 : Sl w lv1 uv1 v1 (z1)) (hv2 : Sl w lv2 uv2 v2 (z2)) (h63 : z1.length ≤ 4611686018427387904 ∧ z2.length ≤ 4611686018427387904) :
  Ret Tryd.prog 19 [.agg #[.string c1, .bool n1, v1], .agg #[.string c2, .bool n2, v2]] w fun v w' => v = .bool (decide (c1 = c2 ∧ n1 = n2 ∧ z1 = z2)) ∧ Chg 0 0 w w' := by
 have hv10 := hv1.fit
 have hv20 := hv2.fit
 refine sx_enter Tryd.func19 rfl Tryd.ntmps19 (nbl rfl) ?_
 refine sx_seq fun K1 k1 => sx_region ?_
 refine sx_box [.string c1, .bool n1, v1] rfl rfl rfl (fun b2 w3 eb2 sb2 fb2 cb2 => ?_)
 have zw3 := cb2.size
 refine sx_box [.string c2, .bool n2, v2] rfl rfl rfl (fun b4 w5 eb4 sb4 fb4 cb4 => ?_)
 have zw5 := cb4.size
 refine av rfl rfl (wl_nil (q_n (k1 _ _ ?_)))
 refine sx_seq fun K6 k6 => ?_
 refine sx_seq fun K7 k7 => sx_region ?_
 refine sp rfl (px_field rfl xfld31x0) ?_
 have f8 := fb2.ext cb4
 refine sp rfl (px_load rfl (f8.load1 rfl Tryd.isAgg9)) ?_
 refine sp rfl (px_field rfl xfld31x0) ?_
 refine sp rfl (px_load rfl (fb4.load1 rfl Tryd.isAgg9)) ?_
 refine sp rfl (px_neS rfl rfl) ?_
 refine wl_nil (q_n (k7 _ _ ?_))
 refine sx_condP rfl (fun h447 => ?_) (fun h447 => ?_)
 ·
  refine sx_seq fun K9 k9 => sx_region ?_
  refine av rfl rfl (wl_nil (q_n (k9 _ _ ?_)))
  refine sx_retc ?_
  refine q_r (sx_ret1 Tryd.results19 rfl ?_)
  exact ⟨(by first | exact bTrue (by grind) | exact bFalse (by grind) | exact bIff (by grind)), (cb2.t cb4)⟩
 refine sx_skip ?_
 refine q_n (k6 _ _ ?_)
 refine sx_seq fun K10 k10 => ?_
 refine sx_seq fun K11 k11 => sx_region ?_
 refine sp rfl (px_field rfl xfld31x1) ?_
 refine sp rfl (px_load rfl (f8.loadA (vs := [.bool n1, v1]) (look_lit rfl) Tryd.isAgg29 Tryd.sizeOf29)) ?_
 refine sp rfl (px_field rfl xfld31x1) ?_
 refine sp rfl (px_load rfl (fb4.loadA (vs := [.bool n2, v2]) (look_lit rfl) Tryd.isAgg29 Tryd.sizeOf29)) ?_
 have f12 := hv10.ext cb2
 have f13 := f12.ext cb4
 have f14 := hv20.ext cb2
 have f15 := f14.ext cb4
 refine sx_call rfl rfl Tryd.call63 (c_eqSigned f13 f15 (by omega)) (fun v16 w16 p16 => ?_)
 obtain ⟨rfl, c16⟩ := p16
 have zw16 := c16.size
 refine sp rfl (px_notP rfl) ?_
 refine wl_nil (q_n (k11 _ _ ?_))
 refine sx_sub (Sub.c 4 rfl (.c 15 rfl .nil)) ?_
 refine sx_condP rfl (fun h450 => ?_) (fun h450 => ?_)
 ·
  refine sx_seq fun K17 k17 => sx_region ?_
  refine av rfl rfl (wl_nil (q_n (k17 _ _ ?_)))
  refine sx_retc ?_
  refine q_r (sx_ret1 Tryd.results19 rfl ?_)
  exact ⟨(by first | exact bTrue (by grind) | exact bFalse (by grind) | exact bIff (by grind)), ((cb2.t cb4).t c16)⟩
 refine sx_skip ?_
 refine q_n (k10 _ _ ?_)
 refine sx_seq fun K18 k18 => sx_region ?_
 refine av rfl rfl (wl_nil (q_n (k18 _ _ ?_)))
 refine sx_retc ?_
 refine sx_ret1 Tryd.results19 rfl ?_
 exact ⟨(by first | exact bTrue (by grind) | exact bFalse (by grind) | exact bIff (by grind)), ((cb2.t cb4).t c16)⟩

theorem c_eqMoneyS {w : World} {va : Value} {lva uva : Nat} {ts : List Mt} {vva : List Value} {vb : Value} {lvb uvb : Nat} {rs : List Mt} {vvb : List Value} (hva : MtS w lva uva va ts vva) (hvb : MtS w lvb uvb vb rs vvb) (h63 : ts.length ≤ 1048576 ∧ rs.length ≤ 1048576) (hz1 : ∀ i, i < ts.length → (ts.getD i mt0).2.2.length ≤ 1048576) (hz2 : ∀ i, i < rs.length → (rs.getD i mt0).2.2.length ≤ 1048576) :
  Ret Tryd.prog 55 [va, vb] w fun v w' => v = .bool (decide (ts = rs)) ∧ Chg 0 0 w w' := by
 have hva0 := hva.fit
 have hvb0 := hvb.fit
 refine sx_enter Tryd.func55 rfl Tryd.ntmps55 (nbl rfl) ?_
 refine sx_seq fun K1 k1 => sx_region ?_
 refine av rfl rfl (wl_nil (q_n (k1 _ _ ?_)))
 refine sx_seq fun K2 k2 => ?_
 refine sx_seq fun K3 k3 => sx_region ?_
 refine mv rfl rfl (sp rfl (px_len rfl Tryd.underlying81 hva0.sv) ?_)
 refine mv rfl rfl (sp rfl (px_len rfl Tryd.underlying81 hvb0.sv) ?_)
 refine sp rfl (px_ne rfl rfl) ?_
 refine wl_nil (q_n (k3 _ _ ?_))
 refine sx_condP rfl (fun h492 => ?_) (fun h492 => ?_)
 ·
  refine sx_seq fun K4 k4 => sx_region ?_
  refine av rfl rfl (wl_nil (q_n (k4 _ _ ?_)))
  refine sx_retc ?_
  refine q_r (sx_ret1 Tryd.results55 rfl ?_)
  exact ⟨bFalse (len_ne_mt (by omega)), (Chg.refl 0 0 _)⟩
 refine sx_skip ?_
 refine q_n (k2 _ _ ?_)
 refine sx_seq fun K5 k5 => ?_
 refine sx_seq fun K6 k6 => sx_region ?_
 refine av rfl rfl (wl_nil (q_n (k6 _ _ ?_)))
 refine sx_block ?_
 refine sx_loop (fun mm aa w' => ∃ (k : Nat), Agr 27 [(0, va), (1, vb), (5, .int .i64 ↑k)] aa ∧ Chg 0 0 w w' ∧ (mm = ts.length - k) ∧ (k ≤ ts.length) ∧ (ts.take k = rs.take k)) (_) (fun a ha => ⟨0, ha.sub (Sub.c 0 rfl (.c 1 rfl (.c 5 (look_int (t := 5) rfl (by first | omega | simp)) .nil))), Chg.refl _ _ _, rfl, by omega, by simp⟩) ?_
 rintro mm aa wl7 ⟨k, hAwl7, cwl7, hm, hk, he⟩
 refine (show cw Tryd.prog 27 _ _ _ wl7 from ?_) aa hAwl7
 clear hAwl7
 have zwl7 := cwl7.size
 refine sx_seq fun K8 k8 => ?_
 refine sx_seq fun K9 k9 => sx_region ?_
 refine mv rfl rfl (mv rfl rfl ?_)
 have f10 := hva0.ext cwl7
 refine sp rfl (px_len rfl Tryd.underlying81 f10.sv) ?_
 refine sp rfl (px_lt rfl rfl) ?_
 refine wl_nil (q_n (k9 _ _ ?_))
 refine sx_condP rfl (fun h495 => ?_) (fun h495 => ?_)
 ·
  refine sx_skip ?_
  refine q_n (k8 _ _ ?_)
  refine sx_seq fun K11 k11 => ?_
  refine sx_block ?_
  refine sx_seq fun K12 k12 => ?_
  have f13 := hvb0.ext cwl7
  refine dx_region (fun w' => Chg 0 0 wl7 w') (by kernel_rfl) (Chg.zero (Chg.drew _)) ?_
  have d14 := Chg.drew wl7
  have s14 : Chg 0 0 wl7 (World.drew wl7) := Chg.zero (Chg.drew _)
  have y14 : (World.drew wl7).heap.size = wl7.heap.size := rfl
  generalize World.drew wl7 = w14 at *
  have zw14 := d14.size
  refine dt 0 rfl rfl rfl rfl s14 (fun _ hS => px_move rfl) ?_
  refine dt 1 rfl rfl rfl rfl s14 (fun _ hS => px_move rfl) ?_
  refine dt 2 rfl rfl rfl rfl s14 (fun _ hS => px_indexK (j := k) rfl rfl (by omega) Tryd.underlying81 Tryd.sizeOf31 ((f10.sv).chg hS (by omega)) (by omega)) ?_
  refine dt 3 rfl rfl rfl rfl s14 (fun _ hS => px_load rfl (((f10.sv).chg hS (by omega)).loadA (mt_look f10.len (by omega)) Tryd.isAgg31 Tryd.sizeOf31)) ?_
  refine dt 4 rfl rfl rfl rfl s14 (fun _ hS => px_move rfl) ?_
  refine dt 5 rfl rfl rfl rfl s14 (fun _ hS => px_move rfl) ?_
  refine dt 6 rfl rfl rfl rfl s14 (fun _ hS => px_indexK (j := k) rfl rfl (by omega) Tryd.underlying81 Tryd.sizeOf31 ((f13.sv).chg hS (by omega)) (by omega)) ?_
  refine dt 7 rfl rfl rfl rfl s14 (fun _ hS => px_load rfl (((f13.sv).chg hS (by omega)).loadA (mt_look f13.len (by omega)) Tryd.isAgg31 Tryd.sizeOf31)) ?_
  refine dx_eff 8 rfl (by kernel_rfl) ?_
  have f15 := (f10.nest k (by omega)).ext d14
  have f16 := (f13.nest k (by omega)).ext d14
  refine sx_call rfl rfl Tryd.call19 (c_eqMoney f15 f16 (by have h1 := hz1 k (by omega); have h2 := hz2 k (by omega); omega)) (fun v17 w17 p17 => ?_)
  obtain ⟨rfl, c17⟩ := p17
  have zw17 := c17.size
  have s18 : Chg 0 0 wl7 w17 := (d14.t c17)
  refine wl_nil ?_
  refine dx_next s18 ?_
  refine dt 9 rfl rfl rfl rfl s18 (fun _ hS => px_notP rfl) ?_
  refine dx_done (by kernel_rfl) ?_
  refine q_n (k12 _ _ ?_)
  refine sx_sub (Sub.c 0 rfl (.c 1 rfl (.c 5 rfl (.c 26 rfl .nil)))) ?_
  refine sx_condP rfl (fun h496 => ?_) (fun h496 => ?_)
  ·
   refine sx_seq fun K19 k19 => sx_region ?_
   refine av rfl rfl (wl_nil (q_n (k19 _ _ ?_)))
   refine sx_retc ?_
   refine q_br (q_r (q_r (q_br (q_r (sx_ret1 Tryd.results55 rfl ?_)))))
   exact ⟨bFalse (mt_ne h496), ((cwl7.t d14).t c17)⟩
  refine sx_skip ?_
  refine q_bn (q_n (k11 _ _ ?_))
  refine sx_region ?_
  refine mv rfl rfl (sp rfl (px_add rfl rfl (by omega)) ?_)
  refine av rfl rfl (wl_nil ?_)
  exact fun a ha => ⟨_, by omega, (k + 1), ha.sub (Sub.c 0 rfl (.c 1 rfl (.c 5 (look_int (t := 5) rfl (by first | omega | simp)) .nil))), ((cwl7.t d14).t c17), rfl, by omega, mt_take_succ_eq he (by omega) (by omega) (mt_eq (Decidable.not_not.1 h496))⟩
 refine sx_exit ?_
 refine q_e (q_e (q_bx (q_n (k5 _ _ ?_))))
 refine sx_seq fun K20 k20 => sx_region ?_
 refine av rfl rfl (wl_nil (q_n (k20 _ _ ?_)))
 refine sx_retc ?_
 refine sx_ret1 Tryd.results55 rfl ?_
 have e1 : k = ts.length := by omega
 rw [e1, List.take_length, List.take_of_length_le (by omega)] at he
 exact ⟨bTrue he, cwl7⟩

theorem c_markText {w : World} {n : Int} (hn : n ≤ 4611686018427387904) :
  Ret Tryd.prog 101 [.int .i64 n] w fun v w' => ∃ s, v = .string (s) ∧ Chg 0 0 w w' := by
 refine sx_enter Tryd.func101 rfl Tryd.ntmps101 (nbl rfl) ?_
 refine sx_seq fun K1 k1 => sx_region ?_
 refine av rfl rfl (wl_nil (q_n (k1 _ _ ?_)))
 refine sx_seq fun K2 k2 => ?_
 refine sx_seq fun K3 k3 => sx_region ?_
 refine mv rfl rfl (sp rfl (px_le rfl rfl) ?_)
 refine wl_nil (q_n (k3 _ _ ?_))
 refine sx_condP rfl (fun h138 => ?_) (fun h138 => ?_)
 ·
  refine sx_seq fun K4 k4 => sx_region ?_
  refine av rfl rfl (wl_nil (q_n (k4 _ _ ?_)))
  refine sx_retc ?_
  refine q_r (sx_ret1 Tryd.results101 rfl ?_)
  exact ⟨_, rfl, (Chg.refl 0 0 _)⟩
 refine sx_skip ?_
 refine q_n (k2 _ _ ?_)
 refine sx_seq fun K5 k5 => sx_region ?_
 refine av rfl rfl (wl_nil (q_n (k5 _ _ ?_)))
 refine sx_seq fun K6 k6 => ?_
 refine sx_block ?_
 refine sx_loop (fun mm aa w' => ∃ (m : Int) (s : ByteArray), Agr 20 [(0, .int .i64 m), (3, .string s)] aa ∧ Chg 0 0 w w' ∧ (mm = m.toNat) ∧ (0 ≤ m ∧ m ≤ 4611686018427387904) ∧ (↑s.size + m ≤ 4611686018427387904)) (_) (fun a ha => ⟨n, ⟨#[]⟩, ha.sub (Sub.c 0 (look_int (t := 0) rfl (by first | omega | simp)) (.c 3 rfl .nil)), Chg.refl _ _ _, rfl, by omega, by have : (⟨#[]⟩ : ByteArray).size = 0 := rfl; omega⟩) ?_
 rintro mm aa wl7 ⟨m, s, hAwl7, cwl7, hm, hm0, hsz⟩
 refine (show cw Tryd.prog 20 _ _ _ wl7 from ?_) aa hAwl7
 clear hAwl7
 have zwl7 := cwl7.size
 refine sx_seq fun K8 k8 => ?_
 refine sx_seq fun K9 k9 => sx_region ?_
 refine mv rfl rfl (sp rfl (px_gt rfl rfl) ?_)
 refine wl_nil (q_n (k9 _ _ ?_))
 refine sx_condP rfl (fun h142 => ?_) (fun h142 => ?_)
 ·
  refine sx_skip ?_
  refine q_n (k8 _ _ ?_)
  refine sx_block ?_
  refine sx_seq fun K10 k10 => sx_region ?_
  refine mv rfl rfl (sp rfl (px_rem rfl rfl (by omega) (by omega)) ?_)
  refine sp rfl (px_add rfl rfl (by omega)) ?_
  refine sp rfl (px_convU8 Tryd.underlying3 Tryd.underlying5 rfl (by omega)) ?_
  refine sx_lit1 rfl xelt133 rfl rfl (fun s11 ws11 ss11 fs11 cs11 => ?_)
  have zws11 := cs11.size
  refine sp rfl (px_convS1 Tryd.underlying133 Tryd.underlying9 Tryd.underlying5 rfl fs11.sv) ?_
  refine mv rfl rfl (sp rfl (px_cat rfl rfl (by first | omega | (simp only [byteS_size]; omega) | (have : (⟨#[109]⟩ : ByteArray).size = 1 := rfl; omega))) ?_)
  refine av rfl rfl (wl_nil (q_n (k10 _ _ ?_)))
  refine sx_region ?_
  refine mv rfl rfl (sp rfl (px_quo rfl rfl (by omega) (by omega) (by omega)) ?_)
  refine av rfl rfl (wl_nil ?_)
  exact q_bn (fun a ha => ⟨_, by omega, (m / 10), ((byteS (48 + (m % 10))) ++ s), ha.sub (Sub.c 0 (look_int (t := 0) rfl (by first | omega | simp)) (.c 3 rfl .nil)), (cwl7.t cs11), rfl, by omega, by rw [ByteArray.size_append, byteS_size]; omega⟩)
 refine sx_exit ?_
 refine q_e (q_e (q_bx (q_n (k6 _ _ ?_))))
 refine sx_seq fun K12 k12 => sx_region ?_
 refine mv rfl rfl (sp rfl (px_cat rfl rfl (by first | omega | (simp only [byteS_size]; omega) | (have : (⟨#[109]⟩ : ByteArray).size = 1 := rfl; omega))) ?_)
 refine av rfl rfl (wl_nil (q_n (k12 _ _ ?_)))
 refine sx_retc ?_
 refine sx_ret1 Tryd.results101 rfl ?_
 exact ⟨_, rfl, cwl7⟩

theorem c_markIntS {w : World} {va : Value} {lva uva : Nat} {zs : List Int} {n : Int} (hva : OwnI w lva uva va intT (zs)) (h63 : zs.length ≤ 1048576) (hn : 0 ≤ n ∧ n ≤ 4611686018427387904) :
  Ret Tryd.prog 70 [va, .int .i64 n] w fun v w' => v = .int .i64 (n + ↑(zs).length) ∧ OwnI w' (lva) (uva) va intT (mk n (zs).length) ∧ Chg lva uva w w' := by
 refine sx_enter Tryd.func70 rfl Tryd.ntmps70 (nbl rfl) ?_
 refine sx_seq fun K1 k1 => sx_region ?_
 refine av rfl rfl (wl_nil (q_n (k1 _ _ ?_)))
 refine sx_seq fun K2 k2 => ?_
 refine sx_seq fun K3 k3 => sx_region ?_
 refine av rfl rfl (wl_nil (q_n (k3 _ _ ?_)))
 refine sx_block ?_
 refine sx_loop (fun mm aa w' => ∃ (k : Nat) (os : List Int), Agr 19 [(0, va), (1, .int .i64 (n + ↑k)), (5, .int .i64 ↑k)] aa ∧ Chg lva uva w w' ∧ Own w' lva uva va intT os.length 1 (os.map (Value.int .i64)) ∧ (mm = zs.length - k) ∧ (k ≤ zs.length) ∧ (os.length = zs.length) ∧ (os.take k = mk n k)) (_) (fun a ha => ⟨0, zs, ha.sub (Sub.c 0 rfl (.c 1 (look_int (t := 1) rfl (by first | omega | simp)) (.c 5 (look_int (t := 5) rfl (by first | omega | simp)) .nil))), Chg.refl _ _ _, hva, rfl, by omega, rfl, rfl⟩) ?_
 rintro mm aa wl4 ⟨k, os, hAwl4, cwl4, hs_va, hm, hk, ho, he⟩
 refine (show cw Tryd.prog 19 _ _ _ wl4 from ?_) aa hAwl4
 clear hAwl4
 have zwl4 := cwl4.size
 refine sx_seq fun K5 k5 => ?_
 refine sx_seq fun K6 k6 => sx_region ?_
 refine mv rfl rfl (mv rfl rfl (sp rfl (px_len rfl Tryd.underlying22 hs_va.sv) ?_))
 refine sp rfl (px_lt rfl rfl) ?_
 refine wl_nil (q_n (k6 _ _ ?_))
 refine sx_condP rfl (fun h222 => ?_) (fun h222 => ?_)
 ·
  refine sx_skip ?_
  refine q_n (k5 _ _ ?_)
  refine sx_seq fun K7 k7 => ?_
  refine sx_block ?_
  refine sx_seq fun K8 k8 => sx_region ?_
  refine mv rfl rfl (mv rfl rfl (mv rfl rfl (sp rfl (px_index1 (j := k) rfl rfl (by omega) Tryd.underlying22 Tryd.sizeOf3 hs_va.sv (by omega)) ?_)))
  refine sx_storeO rfl rfl hs_va (by first | omega | (simp only [List.length_map]; omega)) Tryd.sizeOf3 rfl (fun w9 sw9 fw9 cw9 => ?_)
  have zw9 := cw9.size
  have nw9 := fw9.set
  refine wl_nil (q_n (k8 _ _ ?_))
  refine sx_region ?_
  refine mv rfl rfl (sp rfl (px_add rfl rfl (by omega)) ?_)
  refine av rfl rfl (wl_nil ?_)
  refine q_bn (q_n (k7 _ _ ?_))
  refine sx_region ?_
  refine mv rfl rfl (sp rfl (px_add rfl rfl (by omega)) ?_)
  refine av rfl rfl (wl_nil ?_)
  have q10 := Chg.step (l := lva) (h := uva) cwl4 cw9 (by omega)
  exact fun a ha => ⟨_, by omega, (k + 1), (os.set k (n + ↑k)), ha.sub (Sub.c 0 rfl (.c 1 (look_int (t := 1) rfl (by first | omega | simp)) (.c 5 (look_int (t := 5) rfl (by first | omega | simp)) .nil))), q10, (nw9.mono (by omega) (by omega)), rfl, by omega, by simp [ho], mk_set he (by omega)⟩
 refine sx_exit ?_
 refine q_e (q_e (q_bx (q_n (k2 _ _ ?_))))
 refine sx_seq fun K11 k11 => sx_region ?_
 refine mv rfl rfl (av rfl rfl (wl_nil (q_n (k11 _ _ ?_))))
 refine sx_retc ?_
 refine sx_ret1 Tryd.results70 rfl ?_
 have ek : k = zs.length := by omega
 subst ek
 rw [← ho, List.take_length, ho] at he
 subst he
 exact ⟨rfl, hs_va, cwl4⟩

theorem c_markMoneyS {w : World} {vl : Value} {lvl uvl : Nat} {ts : List Mt} {vvl : List Value} {n : Int} (hvl : MtO w lvl uvl vl 31 intT ts vvl) (h63 : ts.length ≤ 1048576) (hzz : ∀ i, i < ts.length → (ts.getD i mt0).2.2.length ≤ 1048576) (hn : 0 ≤ n ∧ n ≤ 4000000000000000000) (hu : uvl ≤ w.heap.size) :
  Ret Tryd.prog 56 [vl, .int .i64 n] w fun v w' => ∃ ks, v = .int .i64 (n + ↑((ks : List Int)).length) ∧ (((ks : List Int)).length ≤ 1200000000000) ∧ Chg lvl uvl w w' := by
 obtain ⟨l1, h1, r, hvl9, hvO, ha1, ha2, ha3, ha4, hvn⟩ := hvl
 refine sx_enter Tryd.func56 rfl Tryd.ntmps56 (nbl rfl) ?_
 refine sx_seq fun K1 k1 => sx_region ?_
 refine av rfl rfl (wl_nil (q_n (k1 _ _ ?_)))
 refine sx_seq fun K2 k2 => ?_
 refine sx_seq fun K3 k3 => sx_region ?_
 refine av rfl rfl (wl_nil (q_n (k3 _ _ ?_)))
 refine sx_block ?_
 refine sx_loop (fun mm aa w' => ∃ (k : Nat) (xs : List Value) (ks : List Int), Agr 39 [(0, vl), (1, .int .i64 (n + ↑ks.length)), (5, .int .i64 ↑k)] aa ∧ Chg lvl uvl w w' ∧ Own w' l1 h1 vl 31 ((ts).length) 3 (xs) ∧ (mm = ts.length - k) ∧ (k ≤ ts.length) ∧ (xs.length = ts.length * 3) ∧ (∀ i, k ≤ i → i < ts.length → xs[i * 3 + 2]? = some (vvl.getD i vz)) ∧ (∀ i, k ≤ i → i < ts.length → OwnI w' (r i) (r (i + 1)) (vvl.getD i vz) intT (ts.getD i mt0).2.2) ∧ (ks.length ≤ k * 1048580) ∧ (h1 ≤ r k)) (_) (fun a ha => ⟨0, mtCells ts vvl, [], ha.sub (Sub.c 0 rfl (.c 1 (look_int (t := 1) rfl (by first | omega | (simp only [List.length_append, List.length_replicate]; omega) | simp)) (.c 5 (look_int (t := 5) rfl (by first | omega | (simp only [List.length_append, List.length_replicate]; omega) | simp)) .nil))), Chg.refl _ _ _, hvO, rfl, by omega, mtCells_len hvl9, mt_mag hvl9 rfl, fun i _ hi => hvn i hi, by simp, by omega⟩) ?_
 rintro mm aa wl4 ⟨k, xs, ks, hAwl4, cwl4, hs_vl, hm, hk, hxl, hx3, hne, hks, hrk⟩
 refine (show cw Tryd.prog 39 _ _ _ wl4 from ?_) aa hAwl4
 clear hAwl4
 have zwl4 := cwl4.size
 refine sx_seq fun K5 k5 => ?_
 refine sx_seq fun K6 k6 => sx_region ?_
 refine mv rfl rfl (mv rfl rfl (sp rfl (px_len rfl Tryd.underlying81 hs_vl.sv) ?_))
 refine sp rfl (px_lt rfl rfl) ?_
 refine wl_nil (q_n (k6 _ _ ?_))
 refine sx_condP rfl (fun h504 => ?_) (fun h504 => ?_)
 ·
  have hzk := hzz k (by omega)
  have hlh : l1 ≤ h1 := by rcases hvO.2 with ⟨h5, _⟩ | ⟨b5, cap5, sp5, _, h5, h6, _⟩ <;> omega
  have hrk1 := ha3 k (by omega)
  have hru := mono_le ha3 (show k + 1 ≤ ts.length by omega) (Nat.le_refl _)
  refine sx_skip ?_
  refine q_n (k5 _ _ ?_)
  refine sx_seq fun K7 k7 => ?_
  refine sx_block ?_
  refine sx_seq fun K8 k8 => sx_region ?_
  refine mv rfl rfl (mv rfl rfl (mv rfl rfl (sx_call rfl rfl Tryd.call101 (c_markText (by omega)) (fun v9 w9 p9 => ?_))))
  obtain ⟨s9, rfl, c9⟩ := p9
  have zw9 := c9.size
  have f10 := hs_vl.ext c9
  refine sp rfl (px_indexK (j := k) rfl rfl (by omega) Tryd.underlying81 Tryd.sizeOf31 f10.sv (by omega)) ?_
  refine sp rfl (px_field rfl xfld31x0) ?_
  refine sx_storeO (j := (k * 3) + 0) rfl rfl f10 (by first | omega | (simp only [List.length_set]; omega)) Tryd.sizeOf9 rfl (fun w11 sw11 fw11 cw11 => ?_)
  have zw11 := cw11.size
  refine wl_nil (q_n (k8 _ _ ?_))
  refine sx_seq fun K12 k12 => sx_region ?_
  refine mv rfl rfl (sp rfl (px_add rfl rfl (by omega)) ?_)
  refine av rfl rfl (wl_nil (q_n (k12 _ _ ?_)))
  refine sx_sub (Sub.c 0 rfl (.c 1 rfl (.c 5 rfl .nil))) ?_
  refine sx_seq fun K13 k13 => sx_region ?_
  refine mv rfl rfl (mv rfl rfl (mv rfl rfl (sp rfl (px_rem rfl rfl (by omega) (by omega)) ?_)))
  refine sp rfl (px_eq rfl rfl) ?_
  refine sp rfl (px_indexK (j := k) rfl rfl (by omega) Tryd.underlying81 Tryd.sizeOf31 fw11.sv (by omega)) ?_
  refine sp rfl (px_field rfl xfld31x1) ?_
  refine sp rfl (px_field rfl xfld29x0) ?_
  refine sx_storeO (j := ((k * 3) + 1) + 0) rfl rfl fw11 (by first | omega | (simp only [List.length_set]; omega)) Tryd.sizeOf4 rfl (fun w14 sw14 fw14 cw14 => ?_)
  have zw14 := cw14.size
  refine wl_nil (q_n (k13 _ _ ?_))
  refine sx_seq fun K15 k15 => sx_region ?_
  refine mv rfl rfl (sp rfl (px_add rfl rfl (by omega)) ?_)
  refine av rfl rfl (wl_nil (q_n (k15 _ _ ?_)))
  refine sx_region ?_
  refine mv rfl rfl (mv rfl rfl (sp rfl (px_indexK (j := k) rfl rfl (by omega) Tryd.underlying81 Tryd.sizeOf31 fw14.sv (by omega)) ?_))
  refine sp rfl (px_field rfl xfld31x1) ?_
  refine sp rfl (px_field rfl xfld29x1) ?_
  refine sp rfl (px_load rfl (fw14.sv.load1 (by show _[k * 3 + 2]? = _; rw [List.getElem?_set_ne (by omega), List.getElem?_set_ne (by omega)]; exact hx3 k (Nat.le_refl _) (by omega)) Tryd.isAgg22)) ?_
  refine mv rfl rfl ?_
  have f17 := ((hne k (Nat.le_refl _) (by omega)).ext c9).chg cw11 (by omega)
  have f18 := f17.chg cw14 (by omega)
  refine sx_call rfl rfl Tryd.call70 (c_markIntS f18 (hzz k (by omega)) (by omega)) (fun v19 w19 p19 => ?_)
  obtain ⟨rfl, ova_19, c19⟩ := p19
  have zw19 := c19.size
  refine av rfl rfl (wl_nil ?_)
  refine q_bn (q_n (k7 _ _ ?_))
  refine sx_sub (Sub.c 0 rfl (.c 1 rfl (.c 5 rfl .nil))) ?_
  refine sx_region ?_
  refine mv rfl rfl (sp rfl (px_add rfl rfl (by omega)) ?_)
  refine av rfl rfl (wl_nil ?_)
  have q20 := Chg.step (l := l1) (h := (r (k + 1))) (Chg.zero (l := l1) (h := (r (k + 1))) c9) cw11 (by omega)
  have q21 := Chg.step (l := l1) (h := (r (k + 1))) q20 cw14 (by omega)
  have q22 := Chg.step (l := l1) (h := (r (k + 1))) q21 c19 (by omega)
  have q23 := Chg.step (l := lvl) (h := uvl) cwl4 c9 (by omega)
  have q24 := Chg.step (l := lvl) (h := uvl) q23 cw11 (by omega)
  have q25 := Chg.step (l := lvl) (h := uvl) q24 cw14 (by omega)
  have q26 := Chg.step (l := lvl) (h := uvl) q25 c19 (by omega)
  have f27 := fw14.chg c19 (by omega)
  exact fun a ha => ⟨_, by omega, (k + 1), (((xs).set ((k * 3) + 0) (.string s9)).set (((k * 3) + 1) + 0) (.bool (decide ((((n + ↑ks.length) + 1) % 3 : Int) = 0)))), (ks ++ List.replicate (2 + ((ts.getD k mt0).2.2).length) 0), ha.sub (Sub.c 0 rfl (.c 1 (look_int (t := 1) rfl (by first | omega | (simp only [List.length_append, List.length_replicate]; omega) | simp)) (.c 5 (look_int (t := 5) rfl (by first | omega | (simp only [List.length_append, List.length_replicate]; omega) | simp)) .nil))), q26, (f27.mono (by omega) (by omega)), rfl, by omega, by simp only [List.length_set]; exact hxl, mt_cells_rest hx3 (fun j hj => by rw [List.getElem?_set_ne (by omega), List.getElem?_set_ne (by omega)]), mt_nest_rest ha3 hne q22, by simp only [List.length_append, List.length_replicate]; omega, by omega⟩
 refine sx_exit ?_
 refine q_e (q_e (q_bx (q_n (k2 _ _ ?_))))
 refine sx_seq fun K28 k28 => sx_region ?_
 refine mv rfl rfl (av rfl rfl (wl_nil (q_n (k28 _ _ ?_))))
 refine sx_retc ?_
 refine sx_ret1 Tryd.results56 rfl ?_
 exact ⟨_, rfl, by omega, cwl4⟩

theorem c_markSigned {w : World} {n1 : Bool} {v1 : Value} {lv1 uv1 : Nat} {z1 : List Int} {n : Int} (hv1 : OwnI w lv1 uv1 v1 intT (z1)) (h63 : z1.length ≤ 1048576) (hn : 0 ≤ n ∧ n ≤ 4611686018427387904) :
  Ret Tryd.prog 69 [.agg #[.bool n1, v1], .int .i64 n] w fun v w' => v = .int .i64 (n + ↑(z1).length) ∧ OwnI w' (lv1) (uv1) v1 intT (mk n (z1).length) ∧ Chg lv1 uv1 w w' := by
 refine sx_enter Tryd.func69 rfl Tryd.ntmps69 (nbl rfl) ?_
 refine sx_seq fun K1 k1 => sx_region ?_
 refine sx_box [.bool n1, v1] rfl rfl rfl (fun b2 w3 eb2 sb2 fb2 cb2 => ?_)
 have zw3 := cb2.size
 refine av rfl rfl (wl_nil (q_n (k1 _ _ ?_)))
 refine sx_seq fun K4 k4 => sx_region ?_
 refine sp rfl (px_field rfl xfld29x1) ?_
 refine sp rfl (px_load rfl (fb2.load1 rfl Tryd.isAgg22)) ?_
 refine mv rfl rfl ?_
 have f5 := hv1.ext cb2
 refine sx_call rfl rfl Tryd.call70 (c_markIntS f5 (by omega) (by omega)) (fun v6 w6 p6 => ?_)
 obtain ⟨rfl, ova_6, c6⟩ := p6
 have zw6 := c6.size
 refine av rfl rfl (wl_nil (q_n (k4 _ _ ?_)))
 refine sx_seq fun K7 k7 => sx_region ?_
 refine mv rfl rfl (av rfl rfl (wl_nil (q_n (k7 _ _ ?_))))
 refine sx_retc ?_
 refine sx_ret1 Tryd.results69 rfl ?_
 have q8 := Chg.step (l := lv1) (h := uv1) (Chg.zero (l := lv1) (h := uv1) cb2) c6 (by omega)
 exact ⟨rfl, ova_6, q8⟩

theorem c_markMoney {w : World} {c1 : ByteArray} {n1 : Bool} {v1 : Value} {lv1 uv1 : Nat} {z1 : List Int} {n : Int} (hv1 : OwnI w lv1 uv1 v1 intT (z1)) (h63 : z1.length ≤ 1048576) (hn : 0 ≤ n ∧ n ≤ 4611686018427387904) :
  Ret Tryd.prog 27 [.agg #[.string c1, .bool n1, v1], .int .i64 n] w fun v w' => v = .int .i64 (n + ↑(z1).length) ∧ OwnI w' (lv1) (uv1) v1 intT (mk n (z1).length) ∧ Chg lv1 uv1 w w' := by
 refine sx_enter Tryd.func27 rfl Tryd.ntmps27 (nbl rfl) ?_
 refine sx_seq fun K1 k1 => sx_region ?_
 refine sx_box [.string c1, .bool n1, v1] rfl rfl rfl (fun b2 w3 eb2 sb2 fb2 cb2 => ?_)
 have zw3 := cb2.size
 refine av rfl rfl (wl_nil (q_n (k1 _ _ ?_)))
 refine sx_seq fun K4 k4 => sx_region ?_
 refine sp rfl (px_field rfl xfld31x1) ?_
 refine sp rfl (px_load rfl (fb2.loadA (vs := [.bool n1, v1]) (look_lit rfl) Tryd.isAgg29 Tryd.sizeOf29)) ?_
 refine mv rfl rfl ?_
 have f5 := hv1.ext cb2
 refine sx_call rfl rfl Tryd.call69 (c_markSigned f5 (by omega) (by omega)) (fun v6 w6 p6 => ?_)
 obtain ⟨rfl, ov1_6, c6⟩ := p6
 have zw6 := c6.size
 refine av rfl rfl (wl_nil (q_n (k4 _ _ ?_)))
 refine sx_seq fun K7 k7 => sx_region ?_
 refine mv rfl rfl (av rfl rfl (wl_nil (q_n (k7 _ _ ?_))))
 refine sx_retc ?_
 refine sx_ret1 Tryd.results27 rfl ?_
 have q8 := Chg.step (l := lv1) (h := uv1) (Chg.zero (l := lv1) (h := uv1) cb2) c6 (by omega)
 exact ⟨rfl, ov1_6, q8⟩

theorem c_heldIntS {w : World} {va : Value} {lva uva : Nat} {zs : List Int} {n : Int} (hva : Sl w lva uva va (zs)) (h63 : zs.length ≤ 1048576) (hn : 0 ≤ n ∧ n ≤ 4611686018427387904) (hz : zs = mk n zs.length) :
  Ret Tryd.prog 72 [va, .int .i64 n] w fun v w' => v = .int .i64 (n + ↑(zs).length) ∧ Chg 0 0 w w' := by
 have hva0 := hva.fit
 refine sx_enter Tryd.func72 rfl Tryd.ntmps72 (nbl rfl) ?_
 refine sx_seq fun K1 k1 => sx_region ?_
 refine av rfl rfl (wl_nil (q_n (k1 _ _ ?_)))
 refine sx_seq fun K2 k2 => ?_
 refine sx_seq fun K3 k3 => sx_region ?_
 refine av rfl rfl (wl_nil (q_n (k3 _ _ ?_)))
 refine sx_block ?_
 refine sx_loop (fun mm aa w' => ∃ (k : Nat), Agr 21 [(0, va), (1, .int .i64 (n + ↑k)), (5, .int .i64 ↑k)] aa ∧ Chg 0 0 w w' ∧ (mm = zs.length - k) ∧ (k ≤ zs.length)) (_) (fun a ha => ⟨0, ha.sub (Sub.c 0 rfl (.c 1 (look_int (t := 1) rfl (by first | omega | simp)) (.c 5 (look_int (t := 5) rfl (by first | omega | simp)) .nil))), Chg.refl _ _ _, rfl, by omega⟩) ?_
 rintro mm aa wl4 ⟨k, hAwl4, cwl4, hm, hk⟩
 refine (show cw Tryd.prog 21 _ _ _ wl4 from ?_) aa hAwl4
 clear hAwl4
 have zwl4 := cwl4.size
 refine sx_seq fun K5 k5 => ?_
 refine sx_seq fun K6 k6 => sx_region ?_
 refine mv rfl rfl (mv rfl rfl ?_)
 have f7 := hva0.ext cwl4
 refine sp rfl (px_len rfl Tryd.underlying22 f7) ?_
 refine sp rfl (px_lt rfl rfl) ?_
 refine wl_nil (q_n (k6 _ _ ?_))
 refine sx_condP rfl (fun h230 => ?_) (fun h230 => ?_)
 ·
  refine sx_skip ?_
  refine q_n (k5 _ _ ?_)
  refine sx_seq fun K8 k8 => ?_
  refine sx_block ?_
  refine sx_seq fun K9 k9 => ?_
  refine sx_seq fun K10 k10 => sx_region ?_
  refine mv rfl rfl (mv rfl rfl (sp rfl (px_index1 (j := k) rfl rfl (by omega) Tryd.underlying22 Tryd.sizeOf3 f7 (by omega)) ?_))
  refine sp rfl (px_load rfl (f7.load1 (at_int (by omega)) Tryd.isAgg3)) ?_
  refine mv rfl rfl (sp rfl (px_ne rfl rfl) ?_)
  refine wl_nil (q_n (k10 _ _ ?_))
  have h231 : ¬ (((zs).getD k 0 : Int) ≠ n + ↑k) := fun h => h (by rw [hz]; exact mk_getD (by omega))
  refine sx_condPF rfl h231 ?_
  refine sx_skip ?_
  refine q_n (k9 _ _ ?_)
  refine sx_region ?_
  refine mv rfl rfl (sp rfl (px_add rfl rfl (by omega)) ?_)
  refine av rfl rfl (wl_nil ?_)
  refine q_bn (q_n (k8 _ _ ?_))
  refine sx_sub (Sub.c 0 rfl (.c 1 rfl (.c 5 rfl .nil))) ?_
  refine sx_region ?_
  refine mv rfl rfl (sp rfl (px_add rfl rfl (by omega)) ?_)
  refine av rfl rfl (wl_nil ?_)
  exact fun a ha => ⟨_, by omega, (k + 1), ha.sub (Sub.c 0 rfl (.c 1 (look_int (t := 1) rfl (by first | omega | simp)) (.c 5 (look_int (t := 5) rfl (by first | omega | simp)) .nil))), cwl4, rfl, by omega⟩
 refine sx_exit ?_
 refine q_e (q_e (q_bx (q_n (k2 _ _ ?_))))
 refine sx_seq fun K11 k11 => sx_region ?_
 refine mv rfl rfl (av rfl rfl (wl_nil (q_n (k11 _ _ ?_))))
 refine sx_retc ?_
 refine sx_ret1 Tryd.results72 rfl ?_
 have ek : k = zs.length := by omega
 subst ek
 exact ⟨rfl, cwl4⟩

theorem c_heldSigned {w : World} {n1 : Bool} {v1 : Value} {lv1 uv1 : Nat} {z1 : List Int} {n : Int} (hv1 : Sl w lv1 uv1 v1 (z1)) (h63 : z1.length ≤ 1048576) (hn : 0 ≤ n ∧ n ≤ 4611686018427387904) (hz : z1 = mk n z1.length) :
  Ret Tryd.prog 71 [.agg #[.bool n1, v1], .int .i64 n] w fun v w' => v = .int .i64 (n + ↑(z1).length) ∧ Chg 0 0 w w' := by
 have hv10 := hv1.fit
 refine sx_enter Tryd.func71 rfl Tryd.ntmps71 (nbl rfl) ?_
 refine sx_seq fun K1 k1 => sx_region ?_
 refine sx_box [.bool n1, v1] rfl rfl rfl (fun b2 w3 eb2 sb2 fb2 cb2 => ?_)
 have zw3 := cb2.size
 refine av rfl rfl (wl_nil (q_n (k1 _ _ ?_)))
 refine sx_seq fun K4 k4 => sx_region ?_
 refine sp rfl (px_field rfl xfld29x1) ?_
 refine sp rfl (px_load rfl (fb2.load1 rfl Tryd.isAgg22)) ?_
 refine mv rfl rfl ?_
 have f5 := hv10.ext cb2
 refine sx_call rfl rfl Tryd.call72 (c_heldIntS f5 (by omega) (by omega) (by first | assumption | simp [mk_length])) (fun v6 w6 p6 => ?_)
 obtain ⟨rfl, c6⟩ := p6
 have zw6 := c6.size
 refine av rfl rfl (wl_nil (q_n (k4 _ _ ?_)))
 refine sx_seq fun K7 k7 => ?_
 refine sx_seq fun K8 k8 => sx_region ?_
 refine mv rfl rfl (sp rfl (px_lt rfl rfl) ?_)
 refine wl_nil (q_n (k8 _ _ ?_))
 have h279 : ¬ ((n + ↑(z1).length : Int) < 0) := by omega
 refine sx_condPF rfl h279 ?_
 refine sx_skip ?_
 refine q_n (k7 _ _ ?_)
 refine sx_seq fun K9 k9 => sx_region ?_
 refine mv rfl rfl (av rfl rfl (wl_nil (q_n (k9 _ _ ?_))))
 refine sx_retc ?_
 refine sx_ret1 Tryd.results71 rfl ?_
 exact ⟨rfl, (cb2.t c6)⟩

theorem c_heldMoney {w : World} {c1 : ByteArray} {n1 : Bool} {v1 : Value} {lv1 uv1 : Nat} {z1 : List Int} {n : Int} (hv1 : Sl w lv1 uv1 v1 (z1)) (h63 : z1.length ≤ 1048576) (hn : 0 ≤ n ∧ n ≤ 4611686018427387904) (hz : z1 = mk n z1.length) :
  Ret Tryd.prog 28 [.agg #[.string c1, .bool n1, v1], .int .i64 n] w fun v w' => v = .int .i64 (n + ↑(z1).length) ∧ Chg 0 0 w w' := by
 have hv10 := hv1.fit
 refine sx_enter Tryd.func28 rfl Tryd.ntmps28 (nbl rfl) ?_
 refine sx_seq fun K1 k1 => sx_region ?_
 refine sx_box [.string c1, .bool n1, v1] rfl rfl rfl (fun b2 w3 eb2 sb2 fb2 cb2 => ?_)
 have zw3 := cb2.size
 refine av rfl rfl (wl_nil (q_n (k1 _ _ ?_)))
 refine sx_seq fun K4 k4 => sx_region ?_
 refine sp rfl (px_field rfl xfld31x1) ?_
 refine sp rfl (px_load rfl (fb2.loadA (vs := [.bool n1, v1]) (look_lit rfl) Tryd.isAgg29 Tryd.sizeOf29)) ?_
 refine mv rfl rfl ?_
 have f5 := hv10.ext cb2
 refine sx_call rfl rfl Tryd.call71 (c_heldSigned f5 (by first | omega | (simp only [mk_length]; omega)) (by omega) (by first | assumption | simp [mk_length])) (fun v6 w6 p6 => ?_)
 obtain ⟨rfl, c6⟩ := p6
 have zw6 := c6.size
 refine av rfl rfl (wl_nil (q_n (k4 _ _ ?_)))
 refine sx_seq fun K7 k7 => ?_
 refine sx_seq fun K8 k8 => sx_region ?_
 refine mv rfl rfl (sp rfl (px_lt rfl rfl) ?_)
 refine wl_nil (q_n (k8 _ _ ?_))
 have h463 : ¬ ((n + ↑(z1).length : Int) < 0) := by omega
 refine sx_condPF rfl h463 ?_
 refine sx_skip ?_
 refine q_n (k7 _ _ ?_)
 refine sx_seq fun K9 k9 => sx_region ?_
 refine mv rfl rfl (av rfl rfl (wl_nil (q_n (k9 _ _ ?_))))
 refine sx_retc ?_
 refine sx_ret1 Tryd.results28 rfl ?_
 exact ⟨rfl, (cb2.t c6)⟩

end Go.Proofs.YtomfgkfpihemlaaDoor
