/- Contracts of functions of the program: what each call returns, and that it changes nothing that was. Conditions: as each says. -/
import Derived.Test.YtcghgfmickgnkaaGreatDoorTy
import Derived.Test.YtcghgfmickgnkaaGreatDoorNatP
import Derived.Test.YtcghgfmickgnkaaGreatDoorSxD
import Derived.Test.YtcghgfmickgnkaaGreatDoorPair
import Derived.Test.YtcghgfmickgnkaaGreatDoorSxP
import Derived.Test.YtcghgfmickgnkaaGreatDoorRm
import Derived.Test.YtcghgfmickgnkaaGreatDoorL3
import Derived.Test.YtcghgfmickgnkaaGreatDoorL4
set_option linter.unusedVariables false
set_option linter.unusedSimpArgs false
namespace Go.Proofs.YtcghgfmickgnkaaGreatDoor
open Go Go.RowKit
set_option maxRecDepth 100000
theorem c_natAdd {w : World} {va : Value} {lva uva : Nat} {m : Nat} {vb : Value} {lvb uvb : Nat} {n : Nat} (hva : Sl w lva uva va (dg m)) (hvb : Sl w lvb uvb vb (dg n)) (hbm : (dg m).length ≤ 1000) (hbn : (dg n).length ≤ 1000) :
  Ret Tryz.prog 103 [va, vb] w fun v w' => ∃ s, v = s ∧ OwnI w' w.heap.size w'.heap.size s intT (dg (m + n)) ∧ Chg 0 0 w w' := by
 have hva0 := hva.fit
 have hvb0 := hvb.fit
 refine sx_enter Tryz.func103 rfl Tryz.ntmps103 (nbl rfl) ?_
 refine sx_seq fun K1 k1 => sx_region ?_
 refine av rfl rfl (wl_nil (q_n (k1 _ _ ?_)))
 refine sx_seq fun K2 k2 => sx_region ?_
 refine mv rfl rfl (sp rfl (px_len rfl Tryz.underlying26 hva0) ?_)
 refine mv rfl rfl (sp rfl (px_len rfl Tryz.underlying26 hvb0) ?_)
 refine sp rfl (px_max rfl rfl) ?_
 refine sp rfl (px_add rfl rfl (by omega)) ?_
 refine sx_make0 (c := max (dg m).length (dg n).length + 1) rfl xelt26 rfl (look_int rfl (by omega)) (by omega) (by unfold maxLen; omega) (fun s3 ws3 fs3 cs3 ls3 => ?_)
 have zws3 := cs3.size
 refine av rfl rfl (wl_nil (q_n (k2 _ _ ?_)))
 refine sx_seq fun K4 k4 => sx_region ?_
 refine av rfl rfl (wl_nil (q_n (k4 _ _ ?_)))
 refine sx_seq fun K5 k5 => ?_
 refine sx_seq fun K6 k6 => sx_region ?_
 refine av rfl rfl (wl_nil (q_n (k6 _ _ ?_)))
 refine sx_block ?_
 refine sx_loop (fun mm aa w' => ∃ (k : Nat) (s : Value) (os : List Int) (c : Nat), Agr 56 [(0, va), (1, vb), (5, s), (6, .int .i64 ((c : Nat) : Int)), (7, .int .i64 ↑k)] aa ∧ Chg w.heap.size ws3.heap.size ws3 w' ∧ Own w' w.heap.size w'.heap.size s intT os.length 1 (os.map (Value.int .i64)) ∧ (mm = max (dg m).length (dg n).length + 1 - k) ∧ (os.length = k) ∧ (Lm os) ∧ (c ≤ 1) ∧ (k ≤ max (dg m).length (dg n).length) ∧ (vl os + Bs ^ k * c = vl ((dg m).take k) + vl ((dg n).take k))) (_) (fun a ha => ⟨0, s3, [], 0, ha.sub (Sub.c 0 rfl (.c 1 rfl (.c 5 rfl (.c 6 (look_int (t := 6) rfl (by first | omega | simp)) (.c 7 (look_int (t := 7) rfl (by first | omega | simp)) .nil))))), Chg.refl _ _ _, (fs3.mono (by omega) (by omega)), rfl, rfl, Lm.nil, by omega, by omega, by simp [vl]⟩) ?_
 rintro mm aa wl7 ⟨k, s, os, c, hAwl7, cwl7, hs_s, hm, hos, hlm, hc, hk, hv⟩
 refine (show cw Tryz.prog 56 _ _ _ wl7 from ?_) aa hAwl7
 clear hAwl7
 have zwl7 := cwl7.size
 have am := (Lm_dg m).getD k
 have bn := (Lm_dg n).getD k
 refine sx_seq fun K8 k8 => ?_
 refine sx_seq fun K9 k9 => sx_region ?_
 refine mv rfl rfl (mv rfl rfl ?_)
 have f10 := hva0.ext cs3
 have f11 := f10.chg cwl7 (by omega)
 refine sp rfl (px_len rfl Tryz.underlying26 f11) ?_
 refine mv rfl rfl ?_
 have f12 := hvb0.ext cs3
 have f13 := f12.chg cwl7 (by omega)
 refine sp rfl (px_len rfl Tryz.underlying26 f13) ?_
 refine sp rfl (px_max rfl rfl) ?_
 refine sp rfl (px_lt rfl rfl) ?_
 refine wl_nil (q_n (k9 _ _ ?_))
 refine sx_condP rfl (fun h105 => ?_) (fun h105 => ?_)
 ·
  refine sx_skip ?_
  refine q_n (k8 _ _ ?_)
  refine sx_seq fun K14 k14 => ?_
  refine sx_block ?_
  refine sx_seq fun K15 k15 => ?_
  refine sx_seq fun K16 k16 => sx_region ?_
  refine mv rfl rfl (mv rfl rfl (sp rfl (px_len rfl Tryz.underlying26 f11) ?_))
  refine sp rfl (px_lt rfl rfl) ?_
  refine wl_nil (q_n (k16 _ _ ?_))
  refine sx_sub (Sub.c 0 rfl (.c 1 rfl (.c 5 rfl (.c 6 rfl (.c 7 rfl (.c 27 rfl .nil)))))) ?_
  refine sx_condP rfl (fun h106 => ?_) (fun h106 => ?_)
  ·
   refine sx_region ?_
   refine mv rfl rfl (mv rfl rfl (mv rfl rfl (sp rfl (px_index1 (j := k) rfl rfl (by omega) Tryz.underlying26 Tryz.sizeOf3 f11 (by omega)) ?_)))
   refine sp rfl (px_load rfl (f11.load1 (at_int (by omega)) Tryz.isAgg3)) ?_
   refine sp rfl (px_add rfl rfl (by omega)) ?_
   refine av rfl rfl (wl_nil (q_n (k15 _ _ ?_)))
   refine sx_seq fun K17 k17 => ?_
   refine sx_seq fun K18 k18 => sx_region ?_
   refine mv rfl rfl (mv rfl rfl (sp rfl (px_len rfl Tryz.underlying26 f13) ?_))
   refine sp rfl (px_lt rfl rfl) ?_
   refine wl_nil (q_n (k18 _ _ ?_))
   refine sx_sub (Sub.c 0 rfl (.c 1 rfl (.c 5 rfl (.c 6 rfl (.c 7 rfl (.c 37 rfl .nil)))))) ?_
   refine sx_condP rfl (fun h109 => ?_) (fun h109 => ?_)
   ·
    refine sx_region ?_
    refine mv rfl rfl (mv rfl rfl (mv rfl rfl (sp rfl (px_index1 (j := k) rfl rfl (by omega) Tryz.underlying26 Tryz.sizeOf3 f13 (by omega)) ?_)))
    refine sp rfl (px_load rfl (f13.load1 (at_int (by omega)) Tryz.isAgg3)) ?_
    refine sp rfl (px_add rfl rfl (by omega)) ?_
    refine av rfl rfl (wl_nil (q_n (k17 _ _ ?_)))
    refine sx_seq fun K19 k19 => sx_region ?_
    refine mv rfl rfl (mv rfl rfl (sp rfl (px_rem rfl rfl (by omega) (by omega)) ?_))
    refine sx_lit1 rfl xelt26 rfl rfl (fun s20 ws20 ss20 fs20 cs20 => ?_)
    have ns20 := Own.norm (f := (Value.int .i64)) (zs := [((((c : Nat) : Int) + ((dg m).getD k 0)) + ((dg n).getD k 0)) % 1000000000]) fs20
    have zws20 := cs20.size
    have f22 := hs_s.ext cs20
    refine sx_append rfl xelt26 rfl rfl f22 ns20.sv one_int (by omega) (by simp only [List.length_cons, List.length_nil]; omega) (by unfold maxLen; simp only [List.length_cons, List.length_nil]; omega) (fun a21 w21 fw21 cw21 => ?_)
    have nw21 := Own.app (f := (Value.int .i64)) (a := os) (b := [((((c : Nat) : Int) + ((dg m).getD k 0)) + ((dg n).getD k 0)) % 1000000000]) fw21
    have zw21 := cw21.size
    refine av rfl rfl (wl_nil (q_n (k19 _ _ ?_)))
    refine sx_sub (Sub.c 0 rfl (.c 1 rfl (.c 5 rfl (.c 6 rfl (.c 7 rfl .nil))))) ?_
    refine sx_region ?_
    refine mv rfl rfl (sp rfl (px_quo rfl rfl (by omega) (by omega) (by omega)) ?_)
    refine av rfl rfl (wl_nil ?_)
    refine q_bn (q_n (k14 _ _ ?_))
    refine sx_region ?_
    refine mv rfl rfl (sp rfl (px_add rfl rfl (by omega)) ?_)
    refine av rfl rfl (wl_nil ?_)
    have q23 := Chg.step (l := w.heap.size) (h := ws3.heap.size) cwl7 cs20 (by omega)
    have q24 := Chg.step (l := w.heap.size) (h := ws3.heap.size) q23 cw21 (by omega)
    have hs : (((((c : Nat) : Int) + ((dg m).getD k 0)) + ((dg n).getD k 0)) : Int) = ((c : Nat) : Int) + (((dg m).getD k 0).toNat : Nat) + (((dg n).getD k 0).toNat : Nat) := by omega
    have hv2 : vl (os ++ [(((((c : Nat) : Int) + ((dg m).getD k 0)) + ((dg n).getD k 0))) % 1000000000]) + Bs ^ (k + 1) * ((((((c : Nat) : Int) + ((dg m).getD k 0)) + ((dg n).getD k 0))) / 1000000000 : Int).toNat = vl ((dg m).take (k + 1)) + vl ((dg n).take (k + 1)) := by
     rw [vl_concat, hos, vl_take_succ', vl_take_succ', Nat.pow_succ]
     exact add_step hs hv
    have hX := mod_bd (s := ((((c : Nat) : Int) + ((dg m).getD k 0)) + ((dg n).getD k 0))) (by omega)
    exact fun a ha => ⟨_, by omega, (k + 1), a21, (os ++ ([((((c : Nat) : Int) + ((dg m).getD k 0)) + ((dg n).getD k 0)) % 1000000000])), ((((((c : Nat) : Int) + ((dg m).getD k 0)) + ((dg n).getD k 0))) / 1000000000 : Int).toNat, ha.sub (Sub.c 0 rfl (.c 1 rfl (.c 5 rfl (.c 6 (look_int (t := 6) rfl (by first | omega | simp)) (.c 7 (look_int (t := 7) rfl (by first | omega | simp)) .nil))))), q24, (nw21.mono (by omega) (by omega)), rfl, by simp [hos], hlm.append (Lm.single hX.1 hX.2), by omega, by omega, hv2⟩
   have gn := getD_ge (zs := dg n) (k := k) (by omega)
   refine sx_skip ?_
   refine q_n (k17 _ _ ?_)
   refine sx_seq fun K25 k25 => sx_region ?_
   refine mv rfl rfl (mv rfl rfl (sp rfl (px_rem rfl rfl (by omega) (by omega)) ?_))
   refine sx_lit1 rfl xelt26 rfl rfl (fun s26 ws26 ss26 fs26 cs26 => ?_)
   have ns26 := Own.norm (f := (Value.int .i64)) (zs := [(((c : Nat) : Int) + ((dg m).getD k 0)) % 1000000000]) fs26
   have zws26 := cs26.size
   have f28 := hs_s.ext cs26
   refine sx_append rfl xelt26 rfl rfl f28 ns26.sv one_int (by omega) (by simp only [List.length_cons, List.length_nil]; omega) (by unfold maxLen; simp only [List.length_cons, List.length_nil]; omega) (fun a27 w27 fw27 cw27 => ?_)
   have nw27 := Own.app (f := (Value.int .i64)) (a := os) (b := [(((c : Nat) : Int) + ((dg m).getD k 0)) % 1000000000]) fw27
   have zw27 := cw27.size
   refine av rfl rfl (wl_nil (q_n (k25 _ _ ?_)))
   refine sx_region ?_
   refine mv rfl rfl (sp rfl (px_quo rfl rfl (by omega) (by omega) (by omega)) ?_)
   refine av rfl rfl (wl_nil ?_)
   refine q_bn (q_n (k14 _ _ ?_))
   refine sx_region ?_
   refine mv rfl rfl (sp rfl (px_add rfl rfl (by omega)) ?_)
   refine av rfl rfl (wl_nil ?_)
   have q29 := Chg.step (l := w.heap.size) (h := ws3.heap.size) cwl7 cs26 (by omega)
   have q30 := Chg.step (l := w.heap.size) (h := ws3.heap.size) q29 cw27 (by omega)
   have hs : ((((c : Nat) : Int) + ((dg m).getD k 0)) : Int) = ((c : Nat) : Int) + (((dg m).getD k 0).toNat : Nat) + (((dg n).getD k 0).toNat : Nat) := by omega
   have hv2 : vl (os ++ [((((c : Nat) : Int) + ((dg m).getD k 0))) % 1000000000]) + Bs ^ (k + 1) * (((((c : Nat) : Int) + ((dg m).getD k 0))) / 1000000000 : Int).toNat = vl ((dg m).take (k + 1)) + vl ((dg n).take (k + 1)) := by
    rw [vl_concat, hos, vl_take_succ', vl_take_succ', Nat.pow_succ]
    exact add_step hs hv
   have hX := mod_bd (s := (((c : Nat) : Int) + ((dg m).getD k 0))) (by omega)
   exact fun a ha => ⟨_, by omega, (k + 1), a27, (os ++ ([(((c : Nat) : Int) + ((dg m).getD k 0)) % 1000000000])), (((((c : Nat) : Int) + ((dg m).getD k 0))) / 1000000000 : Int).toNat, ha.sub (Sub.c 0 rfl (.c 1 rfl (.c 5 rfl (.c 6 (look_int (t := 6) rfl (by first | omega | simp)) (.c 7 (look_int (t := 7) rfl (by first | omega | simp)) .nil))))), q30, (nw27.mono (by omega) (by omega)), rfl, by simp [hos], hlm.append (Lm.single hX.1 hX.2), by omega, by omega, hv2⟩
  have gm := getD_ge (zs := dg m) (k := k) (by omega)
  refine sx_skip ?_
  refine q_n (k15 _ _ ?_)
  refine sx_seq fun K31 k31 => ?_
  refine sx_seq fun K32 k32 => sx_region ?_
  refine mv rfl rfl (mv rfl rfl (sp rfl (px_len rfl Tryz.underlying26 f13) ?_))
  refine sp rfl (px_lt rfl rfl) ?_
  refine wl_nil (q_n (k32 _ _ ?_))
  refine sx_condP rfl (fun h109 => ?_) (fun h109 => ?_)
  ·
   refine sx_region ?_
   refine mv rfl rfl (mv rfl rfl (mv rfl rfl (sp rfl (px_index1 (j := k) rfl rfl (by omega) Tryz.underlying26 Tryz.sizeOf3 f13 (by omega)) ?_)))
   refine sp rfl (px_load rfl (f13.load1 (at_int (by omega)) Tryz.isAgg3)) ?_
   refine sp rfl (px_add rfl rfl (by omega)) ?_
   refine av rfl rfl (wl_nil (q_n (k31 _ _ ?_)))
   refine sx_sub (Sub.c 0 rfl (.c 1 rfl (.c 5 rfl (.c 6 rfl (.c 7 rfl .nil))))) ?_
   refine sx_seq fun K33 k33 => sx_region ?_
   refine mv rfl rfl (mv rfl rfl (sp rfl (px_rem rfl rfl (by omega) (by omega)) ?_))
   refine sx_lit1 rfl xelt26 rfl rfl (fun s34 ws34 ss34 fs34 cs34 => ?_)
   have ns34 := Own.norm (f := (Value.int .i64)) (zs := [(((c : Nat) : Int) + ((dg n).getD k 0)) % 1000000000]) fs34
   have zws34 := cs34.size
   have f36 := hs_s.ext cs34
   refine sx_append rfl xelt26 rfl rfl f36 ns34.sv one_int (by omega) (by simp only [List.length_cons, List.length_nil]; omega) (by unfold maxLen; simp only [List.length_cons, List.length_nil]; omega) (fun a35 w35 fw35 cw35 => ?_)
   have nw35 := Own.app (f := (Value.int .i64)) (a := os) (b := [(((c : Nat) : Int) + ((dg n).getD k 0)) % 1000000000]) fw35
   have zw35 := cw35.size
   refine av rfl rfl (wl_nil (q_n (k33 _ _ ?_)))
   refine sx_region ?_
   refine mv rfl rfl (sp rfl (px_quo rfl rfl (by omega) (by omega) (by omega)) ?_)
   refine av rfl rfl (wl_nil ?_)
   refine q_bn (q_n (k14 _ _ ?_))
   refine sx_region ?_
   refine mv rfl rfl (sp rfl (px_add rfl rfl (by omega)) ?_)
   refine av rfl rfl (wl_nil ?_)
   have q37 := Chg.step (l := w.heap.size) (h := ws3.heap.size) cwl7 cs34 (by omega)
   have q38 := Chg.step (l := w.heap.size) (h := ws3.heap.size) q37 cw35 (by omega)
   have hs : ((((c : Nat) : Int) + ((dg n).getD k 0)) : Int) = ((c : Nat) : Int) + (((dg m).getD k 0).toNat : Nat) + (((dg n).getD k 0).toNat : Nat) := by omega
   have hv2 : vl (os ++ [((((c : Nat) : Int) + ((dg n).getD k 0))) % 1000000000]) + Bs ^ (k + 1) * (((((c : Nat) : Int) + ((dg n).getD k 0))) / 1000000000 : Int).toNat = vl ((dg m).take (k + 1)) + vl ((dg n).take (k + 1)) := by
    rw [vl_concat, hos, vl_take_succ', vl_take_succ', Nat.pow_succ]
    exact add_step hs hv
   have hX := mod_bd (s := (((c : Nat) : Int) + ((dg n).getD k 0))) (by omega)
   exact fun a ha => ⟨_, by omega, (k + 1), a35, (os ++ ([(((c : Nat) : Int) + ((dg n).getD k 0)) % 1000000000])), (((((c : Nat) : Int) + ((dg n).getD k 0))) / 1000000000 : Int).toNat, ha.sub (Sub.c 0 rfl (.c 1 rfl (.c 5 rfl (.c 6 (look_int (t := 6) rfl (by first | omega | simp)) (.c 7 (look_int (t := 7) rfl (by first | omega | simp)) .nil))))), q38, (nw35.mono (by omega) (by omega)), rfl, by simp [hos], hlm.append (Lm.single hX.1 hX.2), by omega, by omega, hv2⟩
  have gn := getD_ge (zs := dg n) (k := k) (by omega)
  refine sx_skip ?_
  refine q_n (k31 _ _ ?_)
  refine sx_seq fun K39 k39 => sx_region ?_
  refine mv rfl rfl (mv rfl rfl (sp rfl (px_rem rfl rfl (by omega) (by omega)) ?_))
  refine sx_lit1 rfl xelt26 rfl rfl (fun s40 ws40 ss40 fs40 cs40 => ?_)
  have ns40 := Own.norm (f := (Value.int .i64)) (zs := [((c : Nat) : Int) % 1000000000]) fs40
  have zws40 := cs40.size
  have f42 := hs_s.ext cs40
  refine sx_append rfl xelt26 rfl rfl f42 ns40.sv one_int (by omega) (by simp only [List.length_cons, List.length_nil]; omega) (by unfold maxLen; simp only [List.length_cons, List.length_nil]; omega) (fun a41 w41 fw41 cw41 => ?_)
  have nw41 := Own.app (f := (Value.int .i64)) (a := os) (b := [((c : Nat) : Int) % 1000000000]) fw41
  have zw41 := cw41.size
  refine av rfl rfl (wl_nil (q_n (k39 _ _ ?_)))
  refine sx_sub (Sub.c 0 rfl (.c 1 rfl (.c 5 rfl (.c 6 rfl (.c 7 rfl .nil))))) ?_
  refine sx_region ?_
  refine mv rfl rfl (sp rfl (px_quo rfl rfl (by omega) (by omega) (by omega)) ?_)
  refine av rfl rfl (wl_nil ?_)
  refine q_bn (q_n (k14 _ _ ?_))
  refine sx_region ?_
  refine mv rfl rfl (sp rfl (px_add rfl rfl (by omega)) ?_)
  refine av rfl rfl (wl_nil ?_)
  have q43 := Chg.step (l := w.heap.size) (h := ws3.heap.size) cwl7 cs40 (by omega)
  have q44 := Chg.step (l := w.heap.size) (h := ws3.heap.size) q43 cw41 (by omega)
  have hs : (((c : Nat) : Int) : Int) = ((c : Nat) : Int) + (((dg m).getD k 0).toNat : Nat) + (((dg n).getD k 0).toNat : Nat) := by omega
  have hv2 : vl (os ++ [(((c : Nat) : Int)) % 1000000000]) + Bs ^ (k + 1) * ((((c : Nat) : Int)) / 1000000000 : Int).toNat = vl ((dg m).take (k + 1)) + vl ((dg n).take (k + 1)) := by
   rw [vl_concat, hos, vl_take_succ', vl_take_succ', Nat.pow_succ]
   exact add_step hs hv
  have hX := mod_bd (s := ((c : Nat) : Int)) (by omega)
  exact fun a ha => ⟨_, by omega, (k + 1), a41, (os ++ ([((c : Nat) : Int) % 1000000000])), ((((c : Nat) : Int)) / 1000000000 : Int).toNat, ha.sub (Sub.c 0 rfl (.c 1 rfl (.c 5 rfl (.c 6 (look_int (t := 6) rfl (by first | omega | simp)) (.c 7 (look_int (t := 7) rfl (by first | omega | simp)) .nil))))), q44, (nw41.mono (by omega) (by omega)), rfl, by simp [hos], hlm.append (Lm.single hX.1 hX.2), by omega, by omega, hv2⟩
 refine sx_exit ?_
 refine q_e (q_e (q_bx (q_n (k5 _ _ ?_))))
 refine sx_seq fun K45 k45 => ?_
 have ek : k = max (dg m).length (dg n).length := by omega
 have hz : Lm (os ++ [((c : Nat) : Int)]) := hlm.append (Lm.single (by omega) (by omega))
 have hvv : vl (os ++ [((c : Nat) : Int)]) = m + n := by rw [vl_concat, hos, Int.toNat_natCast, hv, vl_take_ge (by omega), vl_take_ge (by omega), vl_dg, vl_dg]
 refine sx_region ?_
 refine mv rfl rfl (mv rfl rfl ?_)
 refine sx_lit1 rfl xelt26 rfl rfl (fun s46 ws46 ss46 fs46 cs46 => ?_)
 have ns46 := Own.norm (f := (Value.int .i64)) (zs := [((c : Nat) : Int)]) fs46
 have zws46 := cs46.size
 have f48 := hs_s.ext cs46
 refine sx_append rfl xelt26 rfl rfl f48 ns46.sv one_int (by omega) (by simp only [List.length_cons, List.length_nil]; omega) (by unfold maxLen; simp only [List.length_cons, List.length_nil]; omega) (fun a47 w47 fw47 cw47 => ?_)
 have nw47 := Own.app (f := (Value.int .i64)) (a := os) (b := [((c : Nat) : Int)]) fw47
 have zw47 := cw47.size
 refine sx_call rfl rfl Tryz.call90 (c_trim nw47 (by assumption) (by first | omega | (simp only [List.length_append, List.length_set, List.length_replicate, List.length_cons, List.length_nil] at *; omega))) (fun v49 w49 p49 => ?_)
 obtain ⟨s49, rfl, os_49, c49⟩ := p49
 have zw49 := c49.size
 refine av rfl rfl (wl_nil (q_n (k45 _ _ ?_)))
 refine sx_sub (Sub.c 4 rfl .nil) ?_
 refine sx_retc ?_
 refine sx_ret1 Tryz.results103 rfl ?_
 have hr := os_49
 rw [hvv] at hr
 have q50 := Chg.step (l := 0) (h := 0) (Chg.zero (l := 0) (h := 0) cs3) cwl7 (by omega)
 have q51 := Chg.step (l := 0) (h := 0) q50 cs46 (by omega)
 have q52 := Chg.step (l := 0) (h := 0) q51 cw47 (by omega)
 have q53 := Chg.step (l := 0) (h := 0) q52 c49 (by omega)
 exact ⟨_, rfl, hr.mono (by omega) (by omega), q53⟩

theorem c_natAdd1 {w : World} {va : Value} {lva uva : Nat} {m : Nat} {vb : Value} {lvb uvb : Nat} {ys : List Int} (hva : Sl w lva uva va (dg m)) (hvb : Sl w lvb uvb vb (ys)) (hbm : (dg m).length ≤ 1000) (hy : ys = [1]) :
  Ret Tryz.prog 103 [va, vb] w fun v w' => ∃ s, v = s ∧ OwnI w' w.heap.size w'.heap.size s intT (dg (m + 1)) ∧ Chg 0 0 w w' := by
 rw [hy, ← dg_1] at hvb; exact c_natAdd hva hvb hbm (by rw [dg_1]; simp)

theorem c_iNatEven {w : World} {va : Value} {lva uva : Nat} {m : Nat} (hva : Sl w lva uva va (dg m)) (hbm : (dg m).length ≤ 50) :
  Ret Tryz.prog 104 [va] w fun v w' => v = .bool (decide (¬ m % 2 = 1)) ∧ Chg 0 0 w w' := by
 have hva0 := hva.fit
 refine sx_enter Tryz.func104 rfl Tryz.ntmps104 (nbl rfl) ?_
 refine sx_seq fun K1 k1 => sx_region ?_
 refine av rfl rfl (wl_nil (q_n (k1 _ _ ?_)))
 refine sx_seq fun K2 k2 => sx_region ?_
 refine mv rfl rfl (sx_call rfl rfl Tryz.call127 (c_iNatOk hva0 (by omega)) (fun v3 w3 p3 => ?_))
 obtain ⟨rfl, c3⟩ := p3
 have zw3 := c3.size
 refine mv rfl rfl ?_
 have h151 : NOk (dg m) := NOk_dg (by omega)
 refine sx_tmpPT (t := 5) rfl h151 ?_
 refine sx_guardT rfl rfl rfl ?_
 refine mv rfl rfl ?_
 refine sx_guardT rfl rfl rfl ?_
 have f4 := hva0.ext c3
 refine sp rfl (px_len rfl Tryz.underlying26 f4) ?_
 refine sx_guardT rfl rfl rfl ?_
 refine sp rfl (px_eq rfl rfl) ?_
 refine sx_guardT rfl rfl rfl ?_
 refine mv rfl rfl ?_
 refine sx_tmpP (t := 9) rfl (fun h151x1 => ?_) (fun h151x1 => ?_)
 ·
  refine sx_guardF rfl rfl rfl rfl rfl rfl ?_
  refine sx_guardF rfl rfl rfl rfl rfl rfl ?_
  refine sx_guardF rfl rfl rfl rfl rfl rfl ?_
  refine sx_guardF rfl rfl rfl rfl rfl rfl ?_
  refine sx_guardF rfl rfl rfl rfl rfl rfl ?_
  refine sx_guardT rfl rfl rfl ?_
  refine sp rfl (px_pick rfl rfl) ?_
  refine sp rfl (px_pick rfl rfl) ?_
  refine av rfl rfl (wl_nil (q_n (k2 _ _ ?_)))
  refine sx_sub (Sub.c 2 rfl .nil) ?_
  refine sx_retc ?_
  refine sx_ret1 Tryz.results104 rfl ?_
  exact ⟨(by have hk := odd_dg (q := m); first | exact bTrue (hk.1 (.inl (by omega))) | exact bIff ⟨fun h => hk.1 (.inr h), fun h => (hk.2 h).resolve_left (by omega)⟩), c3⟩
 refine sx_guardT rfl rfl rfl ?_
 refine mv rfl rfl ?_
 refine sx_guardT rfl rfl rfl ?_
 refine sp rfl (px_index1 (j := 0) rfl rfl (by omega) Tryz.underlying26 Tryz.sizeOf3 f4 (by omega)) ?_
 refine sx_guardT rfl rfl rfl ?_
 refine sp rfl (px_load rfl (f4.load1 (at_int (by omega)) Tryz.isAgg3)) ?_
 refine sx_guardT rfl rfl rfl ?_
 refine sp rfl (px_rem rfl rfl (by have := (Lm_dg m).getD 0; omega) (by omega)) ?_
 refine sx_guardT rfl rfl rfl ?_
 refine sp rfl (px_eq rfl rfl) ?_
 refine sx_guardT rfl rfl rfl ?_
 refine sp rfl (px_pick rfl rfl) ?_
 refine sp rfl (px_pick rfl rfl) ?_
 refine av rfl rfl (wl_nil (q_n (k2 _ _ ?_)))
 refine sx_sub (Sub.c 2 rfl .nil) ?_
 refine sx_retc ?_
 refine sx_ret1 Tryz.results104 rfl ?_
 exact ⟨(by have hk := odd_dg (q := m); first | exact bTrue (hk.1 (.inl (by omega))) | exact bIff ⟨fun h => hk.1 (.inr h), fun h => (hk.2 h).resolve_left (by omega)⟩), c3⟩

theorem c_roundQuotient {w : World} {va : Value} {lva uva : Nat} {x : Int} {vb : Value} {lvb uvb : Nat} {d : Nat} {m : Int} (hva : Sl w lva uva va (dg x.natAbs)) (hvb : Sl w lvb uvb vb (dg d)) (hbx : (dg x.natAbs).length ≤ 49) (hbd : (dg d).length ≤ 390) (hd0 : 0 < d) (hm : 0 ≤ m ∧ m ≤ 6) :
  Ret Tryz.prog 64 [.agg #[.bool (ng x), va], vb, .int .i64 m] w fun v w' => ∃ s, v = .agg #[.bool (ng (rqI x d m)), s] ∧ OwnI w' w.heap.size w'.heap.size s intT (dg (rqI x d m).natAbs) ∧ Chg 0 0 w w' := by
 have hva0 := hva.fit
 have hvb0 := hvb.fit
 have lq := len_div x.natAbs d
 have lr := len_mod (m := x.natAbs) hd0
 have lrr := len_add (x.natAbs % d) (x.natAbs % d)
 refine sx_enter Tryz.func64 rfl Tryz.ntmps64 (nbl rfl) ?_
 refine sx_seq fun K1 k1 => sx_region ?_
 refine sx_box [.bool (ng x), va] rfl rfl rfl (fun b2 w3 eb2 sb2 fb2 cb2 => ?_)
 have zw3 := cb2.size
 refine sx_alloc [.bool false, (.slice none 0 0)] rfl Tryz.zeroValue28 rfl (fun b4 w5 eb4 sb4 fb4 cb4 => ?_)
 have zw5 := cb4.size
 refine wl_nil (q_n (k1 _ _ ?_))
 refine sx_seq fun K6 k6 => sx_region ?_
 refine sp rfl (px_field rfl xfld28x1) ?_
 have f7 := fb2.ext cb4
 refine sp rfl (px_load rfl (f7.load1 rfl Tryz.isAgg26)) ?_
 refine mv rfl rfl ?_
 have f8 := hva0.ext cb2
 have f9 := f8.ext cb4
 have f10 := hvb0.ext cb2
 have f11 := f10.ext cb4
 refine sx_call rfl rfl Tryz.call93 (c_natDiv f9 f11 (by omega) (by omega) (hd0)) (fun v12 w12 p12 => ?_)
 obtain ⟨s12, t12, rfl, os_12, ot_12, c12⟩ := p12
 have zw12 := c12.size
 refine mv rfl rfl (sp rfl (px_ex2 rfl rfl) ?_)
 refine sp rfl (px_ex2 rfl rfl) ?_
 refine av rfl rfl (av rfl rfl (wl_nil (q_n (k6 _ _ ?_))))
 refine sx_seq fun K13 k13 => ?_
 refine sx_seq fun K14 k14 => ?_
 by_cases ph57 : 0 < (dg (x.natAbs % d)).length
 ·
  have f15 := f7.ext c12
  have f16 := fb4.ext c12
  have f17 := f9.ext c12
  refine dx_region (fun w' => Chg 0 0 w12 w') (by kernel_rfl) (Chg.zero (Chg.drew _)) ?_
  have d19 := Chg.drew w12
  have s19 : Chg 0 0 w12 (World.drew w12) := Chg.zero (Chg.drew _)
  have y19 : (World.drew w12).heap.size = w12.heap.size := rfl
  generalize World.drew w12 = w19 at *
  have zw19 := d19.size
  refine dt 0 rfl rfl rfl rfl s19 (fun _ hS => px_move rfl) ?_
  refine dt 1 rfl rfl rfl rfl s19 (fun _ hS => px_len rfl Tryz.underlying26 ((ot_12.sv).chg hS (by omega))) ?_
  refine dt 2 rfl rfl rfl rfl s19 (fun _ hS => px_gt rfl rfl) ?_
  refine dt 3 rfl rfl rfl rfl s19 (fun _ hS => px_move rfl) ?_
  have h57 : (0 : Int) < ↑((dg (x.natAbs % d)).length) := by omega
  refine dx_tmpPT (t := 19) rfl h57 ?_
  refine dx_takeG 5 rfl rfl rfl rfl rfl rfl (by kernel_rfl) (by kernel_rfl) (by kernel_rfl) s19 (fun _ hS => px_move rfl) ?_
  refine dx_takeG 8 rfl rfl rfl rfl rfl rfl (by kernel_rfl) (by kernel_rfl) (by kernel_rfl) s19 (fun _ hS => px_field rfl xfld28x0) ?_
  refine dx_takeG 9 rfl rfl rfl rfl rfl rfl (by kernel_rfl) (by kernel_rfl) (by kernel_rfl) s19 (fun _ hS => px_load rfl ((f15.chg hS (by omega)).load1 rfl Tryz.isAgg4)) ?_
  refine dx_takeG 10 rfl rfl rfl rfl rfl rfl (by kernel_rfl) (by kernel_rfl) (by kernel_rfl) s19 (fun _ hS => px_move rfl) ?_
  refine dx_takeG 11 rfl rfl rfl rfl rfl rfl (by kernel_rfl) (by kernel_rfl) (by kernel_rfl) s19 (fun _ hS => px_move rfl) ?_
  refine dx_takeG 13 rfl rfl rfl rfl rfl rfl (by kernel_rfl) (by kernel_rfl) (by kernel_rfl) s19 (fun _ hS => px_move rfl) ?_
  refine dx_takeG 15 rfl rfl rfl rfl rfl rfl (by kernel_rfl) (by kernel_rfl) (by kernel_rfl) s19 (fun _ hS => px_move rfl) ?_
  refine dx_eff 4 rfl (by kernel_rfl) ?_
  refine sx_guardT rfl rfl rfl ?_
  refine sx_call rfl rfl Tryz.call101 (c_roundModes) (fun v20 w20 p20 => ?_)
  obtain ⟨rfl, c20⟩ := p20
  have zw20 := c20.size
  have s21 : Chg 0 0 w12 w20 := (d19.t c20)
  refine wl_nil ?_
  refine dx_next s21 ?_
  refine dx_takeG 6 rfl rfl rfl rfl rfl rfl (by kernel_rfl) (by kernel_rfl) (by kernel_rfl) s21 (fun _ hS => px_indexRm rfl rfl (by omega)) ?_
  refine dx_takeG 7 rfl rfl rfl rfl rfl rfl (by kernel_rfl) (by kernel_rfl) (by kernel_rfl) s21 (fun _ hS => px_fieldv rfl (xfv123x1 _)) ?_
  refine dx_eff 12 rfl (by kernel_rfl) ?_
  refine sx_guardT rfl rfl rfl ?_
  have f23 := (ot_12.ext d19).ext c20
  refine sx_call rfl rfl Tryz.call103 (c_natAdd f23.sv f23.sv (by omega) (by omega)) (fun v24 w24 p24 => ?_)
  obtain ⟨s24, rfl, os_24, c24⟩ := p24
  have zw24 := c24.size
  have s25 : Chg 0 0 w12 w24 := ((d19.t c20).t c24)
  refine wl_nil ?_
  refine dx_next s25 ?_
  refine dx_eff 14 rfl (by kernel_rfl) ?_
  refine sx_guardT rfl rfl rfl ?_
  have f28 := (((f11.ext c12).ext d19).ext c20).ext c24
  refine sx_call rfl rfl Tryz.call102 (c_natCmp os_24.sv f28 (by omega)) (fun v29 w29 p29 => ?_)
  obtain ⟨rfl, c29⟩ := p29
  have zw29 := c29.size
  have s30 : Chg 0 0 w12 w29 := (((d19.t c20).t c24).t c29)
  refine wl_nil ?_
  refine dx_next s30 ?_
  refine dx_eff 16 rfl (by kernel_rfl) ?_
  refine sx_guardT rfl rfl rfl ?_
  have f34 := (((os_12.ext d19).ext c20).ext c24).ext c29
  refine sx_call rfl rfl Tryz.call104 (c_iNatEven f34.sv (by omega)) (fun v35 w35 p35 => ?_)
  obtain ⟨rfl, c35⟩ := p35
  have zw35 := c35.size
  have s36 : Chg 0 0 w12 w35 := ((((d19.t c20).t c24).t c29).t c35)
  refine wl_nil ?_
  refine dx_next s36 ?_
  refine dx_takeG 17 rfl rfl rfl rfl rfl rfl (by kernel_rfl) (by kernel_rfl) (by kernel_rfl) s36 (fun _ hS => px_notP rfl) ?_
  refine dx_eff 18 rfl (by kernel_rfl) ?_
  refine sx_guardT rfl rfl rfl ?_
  refine sx_callV rfl rfl rfl (rm_call (m := m) (by omega)) (c_away (m := m) (by omega)) (fun v37 w37 p37 => ?_)
  obtain ⟨rfl, c37⟩ := p37
  have zw37 := c37.size
  have s38 : Chg 0 0 w12 w37 := (((((d19.t c20).t c24).t c29).t c35).t c37)
  refine wl_nil ?_
  refine dx_next s38 ?_
  refine dt 19 rfl rfl rfl rfl s38 (fun _ hS => px_pick rfl rfl) ?_
  refine dx_done (by kernel_rfl) ?_
  refine q_n (k14 _ _ ?_)
  refine sx_sub (Sub.c 3 rfl (.c 6 rfl (.c 7 rfl (.c 35 rfl .nil)))) ?_
  refine sx_condB rfl (fun h57x1 => ?_) (fun h57x1 => ?_)
  ·
   try rw [cmpL_dg] at h57x1
   try simp only [Decidable.not_not] at h57x1
   have e := rq_up (x := x) (d := d) (m := m) (len_pos.1 (by omega)) h57x1
   refine sx_region ?_
   refine mv rfl rfl ?_
   refine sx_lit1 rfl xelt26 rfl rfl (fun s39 ws39 ss39 fs39 cs39 => ?_)
   have ns39 := Own.norm (f := (Value.int .i64)) (zs := [1]) fs39
   have zws39 := cs39.size
   have f42 := ((f34.ext c35).ext c37).ext cs39
   refine sx_call rfl rfl Tryz.call103 (c_natAdd1 f42.sv ns39.sv (by omega) (rfl)) (fun v43 w43 p43 => ?_)
   obtain ⟨s43, rfl, os_43, c43⟩ := p43
   have zw43 := c43.size
   refine av rfl rfl (wl_nil (q_n (k13 _ _ ?_)))
   refine sx_seq fun K44 k44 => sx_region ?_
   refine sp rfl (px_field rfl xfld28x0) ?_
   have f51 := ((((((f15.ext d19).ext c20).ext c24).ext c29).ext c35).ext c37).ext cs39
   have f52 := f51.ext c43
   refine sp rfl (px_load rfl (f52.load1 rfl Tryz.isAgg4)) ?_
   refine mv rfl rfl (sx_call rfl rfl Tryz.call55 (c_signed os_43.sv (by have h9 := rq_len (x := x) (d := d) (m := m) hbx; rw [e] at h9; omega)) (fun v53 w53 p53 => ?_))
   obtain ⟨rfl, c53⟩ := p53
   have zw53 := c53.size
   have f61 := ((((((f16.ext d19).ext c20).ext c24).ext c29).ext c35).ext c37).ext cs39
   have f63 := (f61.ext c43).ext c53
   have f64 := os_43.ext c53
   refine sx_store (vs := [.bool (nz (ng x) (dg ((x.natAbs / d) + 1))), v43]) rfl rfl f63 rfl Tryz.sizeOf28 (nbl rfl) (one_cons rfl (one_cons f64.one one_nil)) (fun w54 sw54 fw54 cw54 => ?_)
   have zw54 := cw54.size
   have gw54 : Blk w54 b4 [.bool (nz (ng x) (dg ((x.natAbs / d) + 1))), v43] 28 := fw54
   refine wl_nil (q_n (k44 _ _ ?_))
   refine sx_retc ?_
   refine sx_ret1 Tryz.results64 ⟨_, rfl, gw54.loadA (vs := [.bool (nz (ng x) (dg ((x.natAbs / d) + 1))), v43]) (look_lit rfl) Tryz.isAgg28 Tryz.sizeOf28⟩ ?_
   have hh := rqI_sg x d m
   rw [e] at hh
   rw [← hh.1, ← hh.2]
   have q65 := Chg.step (l := 0) (h := 0) (Chg.zero (l := 0) (h := 0) (((((((((((cb2.t cb4).t c12).t d19).t c20).t c24).t c29).t c35).t c37).t cs39).t c43).t c53)) cw54 (by omega)
   have f66 := f64.chg cw54 (by omega)
   exact ⟨_, rfl, (Own.mono f66 (by omega) (by omega)), q65⟩
  try rw [cmpL_dg] at h57x1
  try simp only [Decidable.not_not] at h57x1
  have e := rq_dn (x := x) (d := d) (m := m) (fun hh => by have h9 := hh.2; rw [h57x1] at h9; cases h9)
  refine sx_skip ?_
  refine q_n (k13 _ _ ?_)
  refine sx_seq fun K67 k67 => sx_region ?_
  refine sp rfl (px_field rfl xfld28x0) ?_
  have f73 := (((((f15.ext d19).ext c20).ext c24).ext c29).ext c35).ext c37
  refine sp rfl (px_load rfl (f73.load1 rfl Tryz.isAgg4)) ?_
  refine mv rfl rfl ?_
  have f75 := (f34.ext c35).ext c37
  refine sx_call rfl rfl Tryz.call55 (c_signed f75.sv (by have h9 := rq_len (x := x) (d := d) (m := m) hbx; rw [e] at h9; omega)) (fun v76 w76 p76 => ?_)
  obtain ⟨rfl, c76⟩ := p76
  have zw76 := c76.size
  have f84 := ((((((f16.ext d19).ext c20).ext c24).ext c29).ext c35).ext c37).ext c76
  have f85 := f75.ext c76
  refine sx_store (vs := [.bool (nz (ng x) (dg (x.natAbs / d))), s12]) rfl rfl f84 rfl Tryz.sizeOf28 (nbl rfl) (one_cons rfl (one_cons f85.one one_nil)) (fun w77 sw77 fw77 cw77 => ?_)
  have zw77 := cw77.size
  have gw77 : Blk w77 b4 [.bool (nz (ng x) (dg (x.natAbs / d))), s12] 28 := fw77
  refine wl_nil (q_n (k67 _ _ ?_))
  refine sx_retc ?_
  refine sx_ret1 Tryz.results64 ⟨_, rfl, gw77.loadA (vs := [.bool (nz (ng x) (dg (x.natAbs / d))), s12]) (look_lit rfl) Tryz.isAgg28 Tryz.sizeOf28⟩ ?_
  have hh := rqI_sg x d m
  rw [e] at hh
  rw [← hh.1, ← hh.2]
  have q86 := Chg.step (l := 0) (h := 0) (Chg.zero (l := 0) (h := 0) (((((((((cb2.t cb4).t c12).t d19).t c20).t c24).t c29).t c35).t c37).t c76)) cw77 (by omega)
  have f87 := f85.chg cw77 (by omega)
  exact ⟨_, rfl, (Own.mono f87 (by omega) (by omega)), q86⟩
 have e := rq_dn (x := x) (d := d) (m := m) (fun hh => by have h9 := len_pos.2 hh.1; omega)
 have f90 := f9.ext c12
 have f91 := f11.ext c12
 refine dx_region (fun w' => Chg 0 0 w12 w') (by kernel_rfl) (Chg.zero (Chg.drew _)) ?_
 have d92 := Chg.drew w12
 have s92 : Chg 0 0 w12 (World.drew w12) := Chg.zero (Chg.drew _)
 have y92 : (World.drew w12).heap.size = w12.heap.size := rfl
 generalize World.drew w12 = w92 at *
 have zw92 := d92.size
 refine dt 0 rfl rfl rfl rfl s92 (fun _ hS => px_move rfl) ?_
 refine dt 1 rfl rfl rfl rfl s92 (fun _ hS => px_len rfl Tryz.underlying26 ((ot_12.sv).chg hS (by omega))) ?_
 refine dt 2 rfl rfl rfl rfl s92 (fun _ hS => px_gt rfl rfl) ?_
 refine dt 3 rfl rfl rfl rfl s92 (fun _ hS => px_move rfl) ?_
 have h57 : ¬ ((0 : Int) < ↑((dg (x.natAbs % d)).length)) := by omega
 refine dx_tmpPF (t := 19) rfl h57 ?_
 refine dx_skip 4 rfl rfl rfl rfl rfl rfl rfl (by kernel_rfl) (by kernel_rfl) (by kernel_rfl) s92 ?_
 refine dx_skip 5 rfl rfl rfl rfl rfl rfl rfl (by kernel_rfl) (by kernel_rfl) (by kernel_rfl) s92 ?_
 refine dx_skip 6 rfl rfl rfl rfl rfl rfl rfl (by kernel_rfl) (by kernel_rfl) (by kernel_rfl) s92 ?_
 refine dx_skip 7 rfl rfl rfl rfl rfl rfl rfl (by kernel_rfl) (by kernel_rfl) (by kernel_rfl) s92 ?_
 refine dx_skip 8 rfl rfl rfl rfl rfl rfl rfl (by kernel_rfl) (by kernel_rfl) (by kernel_rfl) s92 ?_
 refine dx_skip 9 rfl rfl rfl rfl rfl rfl rfl (by kernel_rfl) (by kernel_rfl) (by kernel_rfl) s92 ?_
 refine dx_skip 10 rfl rfl rfl rfl rfl rfl rfl (by kernel_rfl) (by kernel_rfl) (by kernel_rfl) s92 ?_
 refine dx_skip 11 rfl rfl rfl rfl rfl rfl rfl (by kernel_rfl) (by kernel_rfl) (by kernel_rfl) s92 ?_
 refine dx_skip 12 rfl rfl rfl rfl rfl rfl rfl (by kernel_rfl) (by kernel_rfl) (by kernel_rfl) s92 ?_
 refine dx_skip 13 rfl rfl rfl rfl rfl rfl rfl (by kernel_rfl) (by kernel_rfl) (by kernel_rfl) s92 ?_
 refine dx_skip 14 rfl rfl rfl rfl rfl rfl rfl (by kernel_rfl) (by kernel_rfl) (by kernel_rfl) s92 ?_
 refine dx_skip 15 rfl rfl rfl rfl rfl rfl rfl (by kernel_rfl) (by kernel_rfl) (by kernel_rfl) s92 ?_
 refine dx_skip 16 rfl rfl rfl rfl rfl rfl rfl (by kernel_rfl) (by kernel_rfl) (by kernel_rfl) s92 ?_
 refine dx_skip 17 rfl rfl rfl rfl rfl rfl rfl (by kernel_rfl) (by kernel_rfl) (by kernel_rfl) s92 ?_
 refine dx_skip 18 rfl rfl rfl rfl rfl rfl rfl (by kernel_rfl) (by kernel_rfl) (by kernel_rfl) s92 ?_
 refine dt 19 rfl rfl rfl rfl s92 (fun _ hS => px_pick rfl rfl) ?_
 refine dx_done (by kernel_rfl) ?_
 refine q_n (k14 _ _ ?_)
 refine sx_sub (Sub.c 3 rfl (.c 6 rfl (.c 7 rfl (.c 35 rfl .nil)))) ?_
 refine sx_condF rfl ?_
 refine sx_skip ?_
 refine q_n (k13 _ _ ?_)
 refine sx_seq fun K93 k93 => sx_region ?_
 refine sp rfl (px_field rfl xfld28x0) ?_
 have f94 := (f7.ext c12).ext d92
 refine sp rfl (px_load rfl (f94.load1 rfl Tryz.isAgg4)) ?_
 refine mv rfl rfl ?_
 have f95 := os_12.ext d92
 refine sx_call rfl rfl Tryz.call55 (c_signed f95.sv (by have h9 := rq_len (x := x) (d := d) (m := m) hbx; rw [e] at h9; omega)) (fun v96 w96 p96 => ?_)
 obtain ⟨rfl, c96⟩ := p96
 have zw96 := c96.size
 have f99 := ((fb4.ext c12).ext d92).ext c96
 have f100 := f95.ext c96
 refine sx_store (vs := [.bool (nz (ng x) (dg (x.natAbs / d))), s12]) rfl rfl f99 rfl Tryz.sizeOf28 (nbl rfl) (one_cons rfl (one_cons f100.one one_nil)) (fun w97 sw97 fw97 cw97 => ?_)
 have zw97 := cw97.size
 have gw97 : Blk w97 b4 [.bool (nz (ng x) (dg (x.natAbs / d))), s12] 28 := fw97
 refine wl_nil (q_n (k93 _ _ ?_))
 refine sx_retc ?_
 refine sx_ret1 Tryz.results64 ⟨_, rfl, gw97.loadA (vs := [.bool (nz (ng x) (dg (x.natAbs / d))), s12]) (look_lit rfl) Tryz.isAgg28 Tryz.sizeOf28⟩ ?_
 have hh := rqI_sg x d m
 rw [e] at hh
 rw [← hh.1, ← hh.2]
 have q101 := Chg.step (l := 0) (h := 0) (Chg.zero (l := 0) (h := 0) ((((cb2.t cb4).t c12).t d92).t c96)) cw97 (by omega)
 have f102 := f100.chg cw97 (by omega)
 exact ⟨_, rfl, (Own.mono f102 (by omega) (by omega)), q101⟩

theorem c_moneyOf {w : World} {c : ByteArray} {va : Value} {lva uva : Nat} {x : Int} (hG0 : Glob w) (hva : OwnI w lva uva va intT (dg x.natAbs)) (hbx : (dg x.natAbs).length ≤ 1000) (hu : uva ≤ w.heap.size) :
  Ret Tryz.prog 63 [.string c, .agg #[.bool (ng x), va]] w fun v w' => ∃ s, v = .tuple #[.agg #[.string ((mR c x).1), .bool ((mR c x).2.1), s], .bool ((mR c x).2.2.2)] ∧ OwnI w' (lva) (uva) s intT ((mR c x).2.2.1) ∧ Chg 0 0 w w' := by
 refine sx_enter Tryz.func63 rfl Tryz.ntmps63 (nbl rfl) ?_
 refine sx_seq fun K1 k1 => sx_region ?_
 refine sx_box [.bool (ng x), va] rfl rfl rfl (fun b2 w3 eb2 sb2 fb2 cb2 => ?_)
 have zw3 := cb2.size
 refine sx_alloc [.string (⟨#[]⟩), .bool false, (.slice none 0 0)] rfl Tryz.zeroValue48 rfl (fun b4 w5 eb4 sb4 fb4 cb4 => ?_)
 have zw5 := cb4.size
 refine av rfl rfl (wl_nil (q_n (k1 _ _ ?_)))
 refine sx_seq fun K6 k6 => ?_
 refine sx_seq fun K7 k7 => sx_region ?_
 refine mv rfl rfl ?_
 have f8 := fb2.ext cb4
 refine sp rfl (px_load rfl (f8.loadA (vs := [.bool (ng x), va]) (look_lit rfl) Tryz.isAgg28 Tryz.sizeOf28)) ?_
 refine sp rfl (px_build rfl (xbld48x0x1 rfl _)) ?_
 refine sx_alloc [.string (⟨#[]⟩), .bool false, (.slice none 0 0)] rfl Tryz.zeroValue48 rfl (fun b9 w10 eb9 sb9 fb9 cb9 => ?_)
 have zw10 := cb9.size
 have f12 := hva.ext cb2
 have f13 := f12.ext cb4
 have f14 := f13.ext cb9
 refine sx_store (vs := [.string c, .bool (ng x), va]) rfl rfl fb9 rfl Tryz.sizeOf48 (nbl rfl) (one_cons rfl (one_cons rfl (one_cons f14.one one_nil))) (fun w11 sw11 fw11 cw11 => ?_)
 have zw11 := cw11.size
 have gw11 : Blk w11 b9 [.string c, .bool (ng x), va] 48 := fw11
 refine wl_nil (q_n (k7 _ _ ?_))
 refine sx_seq fun K15 k15 => sx_region ?_
 refine sp rfl (px_load rfl (gw11.loadA (vs := [.string c, .bool (ng x), va]) (look_lit rfl) Tryz.isAgg48 Tryz.sizeOf48)) ?_
 have f16 := hG0.ext cb2
 have f17 := f16.ext cb4
 have f18 := f17.ext cb9
 have f19 := f18.chg cw11 (by omega)
 have f20 := f14.chg cw11 (by omega)
 refine sx_call rfl rfl Tryz.call60 (c_iMoneyOk f19 f20.sv (by omega)) (fun v21 w21 p21 => ?_)
 obtain ⟨rfl, c21⟩ := p21
 have zw21 := c21.size
 refine wl_nil (q_n (k15 _ _ ?_))
 refine sx_condP rfl (fun h19 => ?_) (fun h19 => ?_)
 ·
  refine sx_seq fun K22 k22 => sx_region ?_
  have f23 := gw11.ext c21
  refine sp rfl (px_load rfl (f23.loadA (vs := [.string c, .bool (ng x), va]) (look_lit rfl) Tryz.isAgg48 Tryz.sizeOf48)) ?_
  have f25 := fb4.ext cb9
  have f26 := f25.chg cw11 (by omega)
  have f27 := f26.ext c21
  have f28 := f20.ext c21
  refine sx_store (vs := [.string c, .bool (ng x), va]) rfl rfl f27 rfl Tryz.sizeOf48 (nbl rfl) (one_cons rfl (one_cons rfl (one_cons f28.one one_nil))) (fun w24 sw24 fw24 cw24 => ?_)
  have zw24 := cw24.size
  have gw24 : Blk w24 b4 [.string c, .bool (ng x), va] 48 := fw24
  refine av rfl rfl (wl_nil (q_n (k22 _ _ ?_)))
  refine sx_retc ?_
  refine q_r (sx_ret2 Tryz.results63 ⟨_, rfl, gw24.loadA (vs := [.string c, .bool (ng x), va]) (look_lit rfl) Tryz.isAgg48 Tryz.sizeOf48⟩ rfl ?_)
  rw [mR_ok (by first | exact h19 | exact Decidable.not_not.1 h19)]
  have q29 := Chg.step (l := 0) (h := 0) (Chg.zero (l := 0) (h := 0) ((cb2.t cb4).t cb9)) cw11 (by omega)
  have q30 := Chg.step (l := 0) (h := 0) q29 c21 (by omega)
  have q31 := Chg.step (l := 0) (h := 0) q30 cw24 (by omega)
  have f32 := f28.chg cw24 (by omega)
  exact ⟨_, rfl, (Own.mono f32 (by omega) (by omega)), q31⟩
 refine sx_skip ?_
 refine q_n (k6 _ _ ?_)
 refine sx_seq fun K33 k33 => sx_region ?_
 refine sp rfl (px_build rfl (xbld48x  _)) ?_
 have f35 := fb4.ext cb9
 have f36 := f35.chg cw11 (by omega)
 have f37 := f36.ext c21
 refine sx_store (vs := [.string (⟨#[]⟩), .bool false, (.slice none 0 0)]) rfl rfl f37 rfl Tryz.sizeOf48 (nbl rfl) (o3 rfl rfl rfl) (fun w34 sw34 fw34 cw34 => ?_)
 have zw34 := cw34.size
 have gw34 : Blk w34 b4 [.string (⟨#[]⟩), .bool false, (.slice none 0 0)] 48 := fw34
 refine av rfl rfl (wl_nil (q_n (k33 _ _ ?_)))
 refine sx_retc ?_
 refine sx_ret2 Tryz.results63 ⟨_, rfl, gw34.loadA (vs := [.string (⟨#[]⟩), .bool false, (.slice none 0 0)]) (look_lit rfl) Tryz.isAgg48 Tryz.sizeOf48⟩ rfl ?_
 rw [mR_no (by first | exact h19 | assumption)]
 have q38 := Chg.step (l := 0) (h := 0) (Chg.zero (l := 0) (h := 0) ((cb2.t cb4).t cb9)) cw11 (by omega)
 have q39 := Chg.step (l := 0) (h := 0) q38 c21 (by omega)
 have q40 := Chg.step (l := 0) (h := 0) q39 cw34 (by omega)
 exact ⟨_, rfl, Own.nil _ _ _ _ _, q40⟩

theorem c_iNeeded {w : World} {pv : ByteArray} {vt : Value} {lvt uvt : Nat} {ts : List Rt} {vvt : List Value} {c1 : ByteArray} {n1 : Bool} {v1 : Value} {lv1 uv1 : Nat} {z1 : List Int} {fo : ByteArray} (hG0 : Glob w) (hvt : RtS w lvt uvt vt ts vvt) (hv1 : Sl w lv1 uv1 v1 (z1)) (h63 : ts.length ≤ 4611686018427387904) (hz : ∀ i, i < ts.length → (ts.getD i rt0).2.2.2.1.length ≤ 4611686018427387904) (h64 : z1.length ≤ 4611686018427387904) :
  Ret Tryz.prog 25 [.agg #[.string pv, vt], .agg #[.string c1, .bool n1, v1], .string fo] w fun v w' => ∃ s, v = .tuple #[.agg #[.string ((need pv ts c1 n1 z1 fo).1), .bool ((need pv ts c1 n1 z1 fo).2.1), s], .bool ((need pv ts c1 n1 z1 fo).2.2.2)] ∧ OwnI w' w.heap.size w'.heap.size s intT ((need pv ts c1 n1 z1 fo).2.2.1) ∧ ((need pv ts c1 n1 z1 fo).2.2.1.length ≤ 4) ∧ Chg 0 0 w w' := by
 have hvt0 := hvt.fit
 have hv10 := hv1.fit
 refine sx_enter Tryz.func25 rfl Tryz.ntmps25 (nbl rfl) ?_
 refine sx_seq fun K1 k1 => sx_region ?_
 refine sx_box [.string pv, vt] rfl rfl rfl (fun b2 w3 eb2 sb2 fb2 cb2 => ?_)
 have zw3 := cb2.size
 refine sx_box [.string c1, .bool n1, v1] rfl rfl rfl (fun b4 w5 eb4 sb4 fb4 cb4 => ?_)
 have zw5 := cb4.size
 refine sx_alloc [.string (⟨#[]⟩), .bool false, (.slice none 0 0)] rfl Tryz.zeroValue48 rfl (fun b6 w7 eb6 sb6 fb6 cb6 => ?_)
 have zw7 := cb6.size
 refine av rfl rfl (wl_nil (q_n (k1 _ _ ?_)))
 refine sx_seq fun K8 k8 => ?_
 refine sx_seq fun K9 k9 => sx_region ?_
 have f10 := fb4.ext cb6
 refine sp rfl (px_load rfl (f10.loadA (vs := [.string c1, .bool n1, v1]) (look_lit rfl) Tryz.isAgg48 Tryz.sizeOf48)) ?_
 have f11 := hG0.ext cb2
 have f12 := f11.ext cb4
 have f13 := f12.ext cb6
 have f14 := hv10.ext cb2
 have f15 := f14.ext cb4
 have f16 := f15.ext cb6
 refine sx_call rfl rfl Tryz.call60 (c_iMoneyOk f13 f16 (by omega)) (fun v17 w17 p17 => ?_)
 obtain ⟨rfl, c17⟩ := p17
 have zw17 := c17.size
 refine sp rfl (px_notP rfl) ?_
 refine wl_nil (q_n (k9 _ _ ?_))
 refine sx_condP rfl (fun h96 => ?_) (fun h96 => ?_)
 ·
  refine sx_seq fun K18 k18 => sx_region ?_
  refine sp rfl (px_build rfl (xbld48x  _)) ?_
  have f20 := fb6.ext c17
  refine sx_store (vs := [.string (⟨#[]⟩), .bool false, (.slice none 0 0)]) rfl rfl f20 rfl Tryz.sizeOf48 (nbl rfl) (o3 rfl rfl rfl) (fun w19 sw19 fw19 cw19 => ?_)
  have zw19 := cw19.size
  have gw19 : Blk w19 b6 [.string (⟨#[]⟩), .bool false, (.slice none 0 0)] 48 := fw19
  refine av rfl rfl (wl_nil (q_n (k18 _ _ ?_)))
  refine sx_retc ?_
  refine q_r (sx_ret2 Tryz.results25 ⟨_, rfl, gw19.loadA (vs := [.string (⟨#[]⟩), .bool false, (.slice none 0 0)]) (look_lit rfl) Tryz.isAgg48 Tryz.sizeOf48⟩ rfl ?_)
  rw [need_no (fun hh => h96 hh.1)]
  have q21 := Chg.step (l := 0) (h := 0) (Chg.zero (l := 0) (h := 0) (((cb2.t cb4).t cb6).t c17)) cw19 (by omega)
  exact ⟨_, rfl, Own.nil _ _ _ _ _, by simp [noM], q21⟩
 have hM := Decidable.not_not.1 h96
 obtain ⟨x1, rfl, rfl, hx1⟩ := hM.int
 refine sx_skip ?_
 refine q_n (k8 _ _ ?_)
 refine sx_seq fun K22 k22 => sx_region ?_
 have f23 := fb2.ext cb4
 have f24 := f23.ext cb6
 have f25 := f24.ext c17
 refine sp rfl (px_load rfl (f25.loadA (vs := [.string pv, vt]) (look_lit rfl) Tryz.isAgg35 Tryz.sizeOf35)) ?_
 refine mv rfl rfl (sp rfl (px_field rfl xfld48x0) ?_)
 have f26 := f10.ext c17
 refine sp rfl (px_load rfl (f26.load1 rfl Tryz.isAgg9)) ?_
 have f27 := f13.ext c17
 have f28 := hvt0.ext cb2
 have f29 := f28.ext cb4
 have f30 := f29.ext cb6
 have f31 := f30.ext c17
 refine sx_call rfl rfl Tryz.call17 (c_iUnitRate f27 f31 (by omega) (by first | assumption | exact fun i hi => Nat.le_trans (hzz i hi) (by omega))) (fun v32 w32 p32 => ?_)
 obtain ⟨s32, t32, ls32, us32, lt32, ut32, rfl, os_32, ot_32, hd32, hl32, c32⟩ := p32
 have zw32 := c32.size
 refine mv rfl rfl (sp rfl (px_ex2 rfl rfl) ?_)
 refine sp rfl (px_ex2 rfl rfl) ?_
 refine sx_alloc [.bool false, (.slice none 0 0), (.slice none 0 0)] rfl Tryz.zeroValue30 rfl (fun b33 w34 eb33 sb33 fb33 cb33 => ?_)
 have zw34 := cb33.size
 have f36 := ot_32.ext cb33
 have f37 := os_32.ext cb33
 refine sx_store (vs := [.bool ((uRt pv ts fo c1).1), s32, t32]) rfl rfl fb33 rfl Tryz.sizeOf30 (nbl rfl) (one_cons rfl (one_cons f37.one (one_cons f36.one one_nil))) (fun w35 sw35 fw35 cw35 => ?_)
 have zw35 := cw35.size
 have gw35 : Blk w35 b33 [.bool ((uRt pv ts fo c1).1), s32, t32] 30 := fw35
 refine av rfl rfl (wl_nil (q_n (k22 _ _ ?_)))
 refine sx_sub (Sub.c 2 rfl (.c 4 rfl (.c 6 rfl (.c 7 rfl (.c 8 rfl (.c 9 rfl .nil)))))) ?_
 refine sx_seq fun K38 k38 => ?_
 refine sx_seq fun K39 k39 => sx_region ?_
 refine mv rfl rfl (sp rfl (px_not rfl) ?_)
 refine wl_nil (q_n (k39 _ _ ?_))
 refine sx_condB rfl (fun h100 => ?_) (fun h100 => ?_)
 ·
  refine sx_seq fun K40 k40 => sx_region ?_
  refine sp rfl (px_build rfl (xbld48x  _)) ?_
  have f44 := ((fb6.ext c17).ext c32).ext cb33
  have f45 := f44.chg cw35 (by omega)
  refine sx_store (vs := [.string (⟨#[]⟩), .bool false, (.slice none 0 0)]) rfl rfl f45 rfl Tryz.sizeOf48 (nbl rfl) (o3 rfl rfl rfl) (fun w41 sw41 fw41 cw41 => ?_)
  have zw41 := cw41.size
  have gw41 : Blk w41 b6 [.string (⟨#[]⟩), .bool false, (.slice none 0 0)] 48 := fw41
  refine av rfl rfl (wl_nil (q_n (k40 _ _ ?_)))
  refine sx_retc ?_
  refine q_r (sx_ret2 Tryz.results25 ⟨_, rfl, gw41.loadA (vs := [.string (⟨#[]⟩), .bool false, (.slice none 0 0)]) (look_lit rfl) Tryz.isAgg48 Tryz.sizeOf48⟩ rfl ?_)
  rw [need_no (fun hh => bcl hh.2 h100)]
  have q46 := Chg.step (l := 0) (h := 0) (Chg.zero (l := 0) (h := 0) (((((cb2.t cb4).t cb6).t c17).t c32).t cb33)) cw35 (by omega)
  have q47 := Chg.step (l := 0) (h := 0) q46 cw41 (by omega)
  exact ⟨_, rfl, Own.nil _ _ _ _ _, by simp [noM], q47⟩
 have hok := bnot_f h100
 obtain ⟨y1, e1, hpe, hR1, hy1, ly1, le1⟩ := PosL_uRt hok
 have hr1 : (uRt pv ts fo c1).1 = ng y1 := by rw [hpe]
 have hr2 : (uRt pv ts fo c1).2.1 = dg y1.natAbs := by rw [hpe]
 have hr3 : (uRt pv ts fo c1).2.2.1 = dg e1 := by rw [hpe]
 have lm1 := len_mul x1.natAbs e1
 have nm1 : (x1 * (e1 : Int)).natAbs = x1.natAbs * e1 := by rw [Int.natAbs_mul, Int.natAbs_natCast]
 have lm2 : (dg (x1 * (e1 : Int)).natAbs).length ≤ 14 := by rw [nm1]; omega
 have lr9 : (dg (rqI (x1 * (e1 : Int)) y1.natAbs 3).natAbs).length ≤ 15 := by unfold rqI; rw [sgI_abs]; exact rq_len (k := 14) lm2
 have hyp : 0 < y1.natAbs := by omega
 have f48 := f37.chg cw35 (by omega)
 have f49 := f48
 rw [hr2] at f49
 have f50 := f36.chg cw35 (by omega)
 have f51 := f50
 rw [hr3] at f51
 have f52 := gw35
 rw [hr1] at f52
 refine sx_skip ?_
 refine q_n (k38 _ _ ?_)
 refine sx_seq fun K53 k53 => ?_
 refine sx_cut k53 (fun fr w' => ∃ (gb54x0 : Nat) (gs54x1 : Value) (gl54x1 : Nat) (gu54x1 : Nat), fr = [(2, .string fo), (6, .pointer (some ⟨b6, 0, none⟩)), (7, .bool false), (8, .pointer (some ⟨b33, 0, none⟩)), (10, .pointer (some ⟨gb54x0, 0, none⟩))] ∧ Chg 0 0 w35 w' ∧ (Blk w' gb54x0 [.bool (ng (x1 * (e1 : Int))), gs54x1] 28) ∧ (Own w' gl54x1 gu54x1 gs54x1 intT ((dg (x1 * (e1 : Int)).natAbs).length) 1 ((dg (x1 * (e1 : Int)).natAbs).map (Value.int .i64))) ∧ (w35.heap.size ≤ gb54x0 ∧ gb54x0 + 1 ≤ w'.heap.size) ∧ (w35.heap.size ≤ gl54x1 ∧ gu54x1 ≤ w'.heap.size) ∧ (gu54x1 ≤ gb54x0 ∨ gb54x0 + 1 ≤ gl54x1)) (fun kc54 => ?_) ?_
 ·
  have f56 := (f27.ext c32).ext cb33
  have f57 := f56.chg cw35 (by omega)
  have f59 := (f25.ext c32).ext cb33
  have f60 := f59.chg cw35 (by omega)
  have f62 := (f26.ext c32).ext cb33
  have f63 := f62.chg cw35 (by omega)
  have f66 := ((fb6.ext c17).ext c32).ext cb33
  have f67 := f66.chg cw35 (by omega)
  have f69 := (f31.ext c32).ext cb33
  have f70 := f69.chg cw35 (by omega)
  have f73 := ((f16.ext c17).ext c32).ext cb33
  have f74 := f73.chg cw35 (by omega)
  refine dx_region (fun w' => Chg 0 0 w35 w') (by kernel_rfl) (Chg.zero (Chg.drew _)) ?_
  have d75 := Chg.drew w35
  have s75 : Chg 0 0 w35 (World.drew w35) := Chg.zero (Chg.drew _)
  have y75 : (World.drew w35).heap.size = w35.heap.size := rfl
  generalize World.drew w35 = w75 at *
  have zw75 := d75.size
  refine dt 0 rfl rfl rfl rfl s75 (fun _ hS => px_field rfl xfld48x1) ?_
  refine dt 1 rfl rfl rfl rfl s75 (fun _ hS => px_field rfl xfld28x0) ?_
  refine dt 2 rfl rfl rfl rfl s75 (fun _ hS => px_load rfl ((f63.chg hS (by omega)).load1 rfl Tryz.isAgg4)) ?_
  refine dt 3 rfl rfl rfl rfl s75 (fun _ hS => px_field rfl xfld48x1) ?_
  refine dt 4 rfl rfl rfl rfl s75 (fun _ hS => px_field rfl xfld28x1) ?_
  refine dt 5 rfl rfl rfl rfl s75 (fun _ hS => px_load rfl ((f63.chg hS (by omega)).load1 rfl Tryz.isAgg26)) ?_
  refine dt 6 rfl rfl rfl rfl s75 (fun _ hS => px_field rfl xfld30x1) ?_
  refine dt 7 rfl rfl rfl rfl s75 (fun _ hS => px_load rfl ((f52.chg hS (by omega)).load1 rfl Tryz.isAgg26)) ?_
  refine dx_eff2 8 10 rfl rfl (by kernel_rfl) ?_ ?_
  ·
   have f76 := f74.ext d75
   have f77 := f51.ext d75
   refine sx_call rfl rfl Tryz.call51 (c_natMul f76 f77.sv (by omega) (by omega)) (fun v78 w78 p78 => ?_)
   obtain ⟨s78, rfl, os_78, c78⟩ := p78
   have zw78 := c78.size
   have s79 : Chg 0 0 w35 w78 := (d75.t c78)
   refine wl_nil ?_
   refine dx_next s79 ?_
   refine dx_eff2 9 10 rfl rfl (by kernel_rfl) ?_ ?_
   ·
    refine sx_call rfl rfl Tryz.call55 (c_signed os_78.sv (by omega)) (fun v80 w80 p80 => ?_)
    obtain ⟨rfl, c80⟩ := p80
    have zw80 := c80.size
    refine sx_let (t := 35) rfl (show Value.agg #[.bool (nz (ng x1) (dg (x1.natAbs * e1))), v78] = Value.agg #[.bool (ng (x1 * (e1 : Int))), v78] from by rw [(mul_nat_sg x1 e1).1]) ?_
    have f81 := os_78.ext c80
    have f82 := f81
    rw [(mul_nat_sg x1 e1).2] at f82
    have s83 : Chg 0 0 w35 w80 := ((d75.t c78).t c80)
    refine wl_nil ?_
    refine dx_next s83 ?_
    refine dx_eff 10 rfl (by kernel_rfl) ?_
    refine sx_alloc [.bool false, (.slice none 0 0)] rfl Tryz.zeroValue28 rfl (fun b84 w85 eb84 sb84 fb84 cb84 => ?_)
    have zw85 := cb84.size
    have s86 : Chg 0 0 w35 w85 := (((d75.t c78).t c80).t cb84)
    refine wl_nil ?_
    refine dx_next s86 ?_
    refine dx_eff 11 rfl (by kernel_rfl) ?_
    have f88 := f82.ext cb84
    refine sx_store (vs := [.bool (ng (x1 * (e1 : Int))), v78]) rfl rfl fb84 rfl Tryz.sizeOf28 (nbl rfl) (one_cons rfl (one_cons f88.one one_nil)) (fun w87 sw87 fw87 cw87 => ?_)
    have zw87 := cw87.size
    have gw87 : Blk w87 b84 [.bool (ng (x1 * (e1 : Int))), v78] 28 := fw87
    have q90 := Chg.step (l := 0) (h := 0) (Chg.zero (l := 0) (h := 0) (((d75.t c78).t c80).t cb84)) cw87 (by omega)
    have s89 : Chg 0 0 w35 w87 := q90
    refine wl_nil ?_
    refine dx_next s89 ?_
    refine dx_done (by kernel_rfl) ?_
    have f91 := f88.chg cw87 (by omega)
    have q92 := Chg.step (l := 0) (h := 0) (Chg.zero (l := 0) (h := 0) (((d75.t c78).t c80).t cb84)) cw87 (by omega)
    exact q_n (kw_sub (Sub.c 2 rfl (.c 6 rfl (.c 7 rfl (.c 8 rfl (.c 10 rfl .nil))))) (kc54 _ _ ⟨b84, v78, w75.heap.size, w78.heap.size, rfl, q92, gw87, f91, by omega, by omega, by omega⟩))
   refine sx_alloc [.bool false, (.slice none 0 0)] rfl Tryz.zeroValue28 rfl (fun b93 w94 eb93 sb93 fb93 cb93 => ?_)
   have zw94 := cb93.size
   have s95 : Chg 0 0 w35 w94 := ((d75.t c78).t cb93)
   refine wl_nil ?_
   refine dx_next s95 ?_
   refine dx_eff 9 rfl (by kernel_rfl) ?_
   have f96 := os_78.ext cb93
   refine sx_call rfl rfl Tryz.call55 (c_signed f96.sv (by omega)) (fun v97 w97 p97 => ?_)
   obtain ⟨rfl, c97⟩ := p97
   have zw97 := c97.size
   refine sx_let (t := 35) rfl (show Value.agg #[.bool (nz (ng x1) (dg (x1.natAbs * e1))), v78] = Value.agg #[.bool (ng (x1 * (e1 : Int))), v78] from by rw [(mul_nat_sg x1 e1).1]) ?_
   have f98 := f96.ext c97
   have f99 := f98
   rw [(mul_nat_sg x1 e1).2] at f99
   have s100 : Chg 0 0 w35 w97 := (((d75.t c78).t cb93).t c97)
   refine wl_nil ?_
   refine dx_next s100 ?_
   refine dx_eff 11 rfl (by kernel_rfl) ?_
   have f102 := fb93.ext c97
   refine sx_store (vs := [.bool (ng (x1 * (e1 : Int))), v78]) rfl rfl f102 rfl Tryz.sizeOf28 (nbl rfl) (one_cons rfl (one_cons f99.one one_nil)) (fun w101 sw101 fw101 cw101 => ?_)
   have zw101 := cw101.size
   have gw101 : Blk w101 b93 [.bool (ng (x1 * (e1 : Int))), v78] 28 := fw101
   have q104 := Chg.step (l := 0) (h := 0) (Chg.zero (l := 0) (h := 0) (((d75.t c78).t cb93).t c97)) cw101 (by omega)
   have s103 : Chg 0 0 w35 w101 := q104
   refine wl_nil ?_
   refine dx_next s103 ?_
   refine dx_done (by kernel_rfl) ?_
   have f105 := f99.chg cw101 (by omega)
   have q106 := Chg.step (l := 0) (h := 0) (Chg.zero (l := 0) (h := 0) (((d75.t c78).t cb93).t c97)) cw101 (by omega)
   exact q_n (kw_sub (Sub.c 2 rfl (.c 6 rfl (.c 7 rfl (.c 8 rfl (.c 10 rfl .nil))))) (kc54 _ _ ⟨b93, v78, w75.heap.size, w78.heap.size, rfl, q106, gw101, f105, by omega, by omega, by omega⟩))
  refine sx_alloc [.bool false, (.slice none 0 0)] rfl Tryz.zeroValue28 rfl (fun b107 w108 eb107 sb107 fb107 cb107 => ?_)
  have zw108 := cb107.size
  have s109 : Chg 0 0 w35 w108 := (d75.t cb107)
  refine wl_nil ?_
  refine dx_next s109 ?_
  refine dx_eff 8 rfl (by kernel_rfl) ?_
  have f111 := (f74.ext d75).ext cb107
  have f113 := (f51.ext d75).ext cb107
  refine sx_call rfl rfl Tryz.call51 (c_natMul f111 f113.sv (by omega) (by omega)) (fun v114 w114 p114 => ?_)
  obtain ⟨s114, rfl, os_114, c114⟩ := p114
  have zw114 := c114.size
  have s115 : Chg 0 0 w35 w114 := ((d75.t cb107).t c114)
  refine wl_nil ?_
  refine dx_next s115 ?_
  refine dx_eff 9 rfl (by kernel_rfl) ?_
  refine sx_call rfl rfl Tryz.call55 (c_signed os_114.sv (by omega)) (fun v116 w116 p116 => ?_)
  obtain ⟨rfl, c116⟩ := p116
  have zw116 := c116.size
  refine sx_let (t := 35) rfl (show Value.agg #[.bool (nz (ng x1) (dg (x1.natAbs * e1))), v114] = Value.agg #[.bool (ng (x1 * (e1 : Int))), v114] from by rw [(mul_nat_sg x1 e1).1]) ?_
  have f117 := os_114.ext c116
  have f118 := f117
  rw [(mul_nat_sg x1 e1).2] at f118
  have s119 : Chg 0 0 w35 w116 := (((d75.t cb107).t c114).t c116)
  refine wl_nil ?_
  refine dx_next s119 ?_
  refine dx_eff 11 rfl (by kernel_rfl) ?_
  have f122 := (fb107.ext c114).ext c116
  refine sx_store (vs := [.bool (ng (x1 * (e1 : Int))), v114]) rfl rfl f122 rfl Tryz.sizeOf28 (nbl rfl) (one_cons rfl (one_cons f118.one one_nil)) (fun w120 sw120 fw120 cw120 => ?_)
  have zw120 := cw120.size
  have gw120 : Blk w120 b107 [.bool (ng (x1 * (e1 : Int))), v114] 28 := fw120
  have q124 := Chg.step (l := 0) (h := 0) (Chg.zero (l := 0) (h := 0) (((d75.t cb107).t c114).t c116)) cw120 (by omega)
  have s123 : Chg 0 0 w35 w120 := q124
  refine wl_nil ?_
  refine dx_next s123 ?_
  refine dx_done (by kernel_rfl) ?_
  have f125 := f118.chg cw120 (by omega)
  have q126 := Chg.step (l := 0) (h := 0) (Chg.zero (l := 0) (h := 0) (((d75.t cb107).t c114).t c116)) cw120 (by omega)
  exact q_n (kw_sub (Sub.c 2 rfl (.c 6 rfl (.c 7 rfl (.c 8 rfl (.c 10 rfl .nil))))) (kc54 _ _ ⟨b107, v114, w108.heap.size, w114.heap.size, rfl, q126, gw120, f125, by omega, by omega, by omega⟩))
 rintro fr w'54 ⟨gb54x0, gs54x1, gl54x1, gu54x1, rfl, cw'54, xgb54x0, xgs54x1, ygb54x0, ygl54x1, dgl54x1xgb54x0⟩
 have zw'54 := cw'54.size
 refine sx_seq fun K127 k127 => sx_region ?_
 refine mv rfl rfl (sp rfl (px_load rfl (xgb54x0.loadA (vs := [.bool (ng (x1 * (e1 : Int))), gs54x1]) (look_lit rfl) Tryz.isAgg28 Tryz.sizeOf28)) ?_)
 refine sp rfl (px_field rfl xfld30x0) ?_
 refine sp rfl (px_field rfl xfld28x1) ?_
 have f128 := f52.ext cw'54
 refine sp rfl (px_load rfl (f128.load1 rfl Tryz.isAgg26)) ?_
 have f129 := f49.ext cw'54
 refine sx_call rfl rfl Tryz.call64 (c_roundQuotient xgs54x1.sv f129.sv (by omega) (by omega) (hyp) (by omega)) (fun v130 w130 p130 => ?_)
 obtain ⟨s130, rfl, os_130, c130⟩ := p130
 have zw130 := c130.size
 have f132 := (f27.ext c32).ext cb33
 have f133 := f132.chg cw35 (by omega)
 have f134 := f133.ext cw'54
 have f135 := f134.ext c130
 refine sx_call rfl rfl Tryz.call63 (c_moneyOf f135 os_130 (by omega) (by omega)) (fun v136 w136 p136 => ?_)
 obtain ⟨s136, rfl, os_136, c136⟩ := p136
 have zw136 := c136.size
 refine sp rfl (px_ex2 rfl rfl) ?_
 refine sp rfl (px_ex2 rfl rfl) ?_
 have f140 := ((fb6.ext c17).ext c32).ext cb33
 have f141 := f140.chg cw35 (by omega)
 have f142 := f141.ext cw'54
 have f144 := (f142.ext c130).ext c136
 refine sx_store (vs := [.string ((mR fo (rqI (x1 * (e1 : Int)) ((y1).natAbs) (3 : Int))).1), .bool ((mR fo (rqI (x1 * (e1 : Int)) ((y1).natAbs) (3 : Int))).2.1), s136]) rfl rfl f144 rfl Tryz.sizeOf48 (nbl rfl) (one_cons rfl (one_cons rfl (one_cons os_136.one one_nil))) (fun w137 sw137 fw137 cw137 => ?_)
 have zw137 := cw137.size
 have gw137 : Blk w137 b6 [.string ((mR fo (rqI (x1 * (e1 : Int)) ((y1).natAbs) (3 : Int))).1), .bool ((mR fo (rqI (x1 * (e1 : Int)) ((y1).natAbs) (3 : Int))).2.1), s136] 48 := fw137
 refine av rfl rfl (wl_nil (q_n (k127 _ _ ?_)))
 refine sx_retc ?_
 refine sx_ret2 Tryz.results25 ⟨_, rfl, gw137.loadA (vs := [.string ((mR fo (rqI (x1 * (e1 : Int)) ((y1).natAbs) (3 : Int))).1), .bool ((mR fo (rqI (x1 * (e1 : Int)) ((y1).natAbs) (3 : Int))).2.1), s136]) (look_lit rfl) Tryz.isAgg48 Tryz.sizeOf48⟩ rfl ?_
 rw [need_ok hM hok hr2 hr3]
 have q145 := Chg.step (l := 0) (h := 0) (Chg.zero (l := 0) (h := 0) (((((cb2.t cb4).t cb6).t c17).t c32).t cb33)) cw35 (by omega)
 have q146 := Chg.step (l := 0) (h := 0) q145 ((cw'54.t c130).t c136) (by omega)
 have q147 := Chg.step (l := 0) (h := 0) q146 cw137 (by omega)
 have f148 := os_136.chg cw137 (by omega)
 exact ⟨_, rfl, (Own.mono f148 (by omega) (by omega)), mR_len, q147⟩

theorem c_eqIntS {w : World} {va : Value} {lva uva : Nat} {zs : List Int} {vb : Value} {lvb uvb : Nat} {ys : List Int} (hva : Sl w lva uva va (zs)) (hvb : Sl w lvb uvb vb (ys)) (h63 : zs.length ≤ 4611686018427387904 ∧ ys.length ≤ 4611686018427387904) :
  Ret Tryz.prog 42 [va, vb] w fun v w' => v = .bool (decide (zs = ys)) ∧ Chg 0 0 w w' := by
 have hva0 := hva.fit
 have hvb0 := hvb.fit
 have hneq : zs.length ≠ ys.length → zs ≠ ys := fun h e => h (by rw [e])
 refine sx_enter Tryz.func42 rfl Tryz.ntmps42 (nbl rfl) ?_
 refine sx_seq fun K1 k1 => sx_region ?_
 refine av rfl rfl (wl_nil (q_n (k1 _ _ ?_)))
 refine sx_seq fun K2 k2 => ?_
 refine sx_seq fun K3 k3 => sx_region ?_
 refine mv rfl rfl (sp rfl (px_len rfl Tryz.underlying26 hva0) ?_)
 refine mv rfl rfl (sp rfl (px_len rfl Tryz.underlying26 hvb0) ?_)
 refine sp rfl (px_ne rfl rfl) ?_
 refine wl_nil (q_n (k3 _ _ ?_))
 refine sx_condP rfl (fun h210 => ?_) (fun h210 => ?_)
 ·
  refine sx_seq fun K4 k4 => sx_region ?_
  refine av rfl rfl (wl_nil (q_n (k4 _ _ ?_)))
  refine sx_retc ?_
  refine q_r (sx_ret1 Tryz.results42 rfl ?_)
  exact ⟨bFalse (hneq (by omega)), (Chg.refl 0 0 _)⟩
 refine sx_skip ?_
 refine q_n (k2 _ _ ?_)
 refine sx_seq fun K5 k5 => ?_
 refine sx_seq fun K6 k6 => sx_region ?_
 refine av rfl rfl (wl_nil (q_n (k6 _ _ ?_)))
 refine sx_block ?_
 refine sx_loop (fun mm aa w' => ∃ (k : Nat), Agr 26 [(0, va), (1, vb), (5, .int .i64 ↑k)] aa ∧ Chg 0 0 w w' ∧ (mm = zs.length - k) ∧ (k ≤ zs.length) ∧ (zs.take k = ys.take k)) (_) (fun a ha => ⟨0, ha.sub (Sub.c 0 rfl (.c 1 rfl (.c 5 (look_int (t := 5) rfl (by first | omega | simp)) .nil))), Chg.refl _ _ _, rfl, by omega, by simp⟩) ?_
 rintro mm aa wl7 ⟨k, hAwl7, cwl7, hm, hk, he⟩
 refine (show cw Tryz.prog 26 _ _ _ wl7 from ?_) aa hAwl7
 clear hAwl7
 have zwl7 := cwl7.size
 refine sx_seq fun K8 k8 => ?_
 refine sx_seq fun K9 k9 => sx_region ?_
 refine mv rfl rfl (mv rfl rfl ?_)
 have f10 := hva0.ext cwl7
 refine sp rfl (px_len rfl Tryz.underlying26 f10) ?_
 refine sp rfl (px_lt rfl rfl) ?_
 refine wl_nil (q_n (k9 _ _ ?_))
 refine sx_condP rfl (fun h213 => ?_) (fun h213 => ?_)
 ·
  refine sx_skip ?_
  refine q_n (k8 _ _ ?_)
  refine sx_seq fun K11 k11 => ?_
  refine sx_block ?_
  refine sx_seq fun K12 k12 => ?_
  have f13 := hvb0.ext cwl7
  refine dx_region (fun w' => Chg 0 0 wl7 w') (by kernel_rfl) (Chg.zero (Chg.drew _)) ?_
  have d14 := Chg.drew wl7
  have s14 : Chg 0 0 wl7 (World.drew wl7) := Chg.zero (Chg.drew _)
  have y14 : (World.drew wl7).heap.size = wl7.heap.size := rfl
  generalize World.drew wl7 = w14 at *
  have zw14 := d14.size
  refine dt 0 rfl rfl rfl rfl s14 (fun _ hS => px_move rfl) ?_
  refine dt 1 rfl rfl rfl rfl s14 (fun _ hS => px_move rfl) ?_
  refine dt 2 rfl rfl rfl rfl s14 (fun _ hS => px_index1 (j := k) rfl rfl (by omega) Tryz.underlying26 Tryz.sizeOf3 ((f10).chg hS (by omega)) (by omega)) ?_
  refine dt 3 rfl rfl rfl rfl s14 (fun _ hS => px_load rfl (((f10).chg hS (by omega)).load1 (at_int (by omega)) Tryz.isAgg3)) ?_
  refine dt 4 rfl rfl rfl rfl s14 (fun _ hS => px_move rfl) ?_
  refine dt 5 rfl rfl rfl rfl s14 (fun _ hS => px_move rfl) ?_
  refine dt 6 rfl rfl rfl rfl s14 (fun _ hS => px_index1 (j := k) rfl rfl (by omega) Tryz.underlying26 Tryz.sizeOf3 ((f13).chg hS (by omega)) (by omega)) ?_
  refine dt 7 rfl rfl rfl rfl s14 (fun _ hS => px_load rfl (((f13).chg hS (by omega)).load1 (at_int (by omega)) Tryz.isAgg3)) ?_
  refine dt 8 rfl rfl rfl rfl s14 (fun _ hS => px_ne rfl rfl) ?_
  refine dx_done (by kernel_rfl) ?_
  refine q_n (k12 _ _ ?_)
  refine sx_sub (Sub.c 0 rfl (.c 1 rfl (.c 5 rfl (.c 25 rfl .nil)))) ?_
  refine sx_condP rfl (fun h214 => ?_) (fun h214 => ?_)
  ·
   refine sx_seq fun K15 k15 => sx_region ?_
   refine av rfl rfl (wl_nil (q_n (k15 _ _ ?_)))
   refine sx_retc ?_
   refine q_br (q_r (q_r (q_br (q_r (sx_ret1 Tryz.results42 rfl ?_)))))
   exact ⟨bFalse (ne_of_getD h214), (cwl7.t d14)⟩
  refine sx_skip ?_
  refine q_bn (q_n (k11 _ _ ?_))
  refine sx_region ?_
  refine mv rfl rfl (sp rfl (px_add rfl rfl (by omega)) ?_)
  refine av rfl rfl (wl_nil ?_)
  exact fun a ha => ⟨_, by omega, (k + 1), ha.sub (Sub.c 0 rfl (.c 1 rfl (.c 5 (look_int (t := 5) rfl (by first | omega | simp)) .nil))), (cwl7.t d14), rfl, by omega, take_succ_eq he (by omega) (by omega) (Decidable.not_not.1 h214)⟩
 refine sx_exit ?_
 refine q_e (q_e (q_bx (q_n (k5 _ _ ?_))))
 refine sx_seq fun K16 k16 => sx_region ?_
 refine av rfl rfl (wl_nil (q_n (k16 _ _ ?_)))
 refine sx_retc ?_
 refine sx_ret1 Tryz.results42 rfl ?_
 have e1 : k = zs.length := by omega
 rw [e1, List.take_length, List.take_of_length_le (by omega)] at he
 exact ⟨bTrue he, cwl7⟩

theorem c_eqSigned {w : World} {n1 : Bool} {v1 : Value} {lv1 uv1 : Nat} {z1 : List Int} {n2 : Bool} {v2 : Value} {lv2 uv2 : Nat} {z2 : List Int} (hv1 : Sl w lv1 uv1 v1 (z1)) (hv2 : Sl w lv2 uv2 v2 (z2)) (h63 : z1.length ≤ 4611686018427387904 ∧ z2.length ≤ 4611686018427387904) :
  Ret Tryz.prog 41 [.agg #[.bool n1, v1], .agg #[.bool n2, v2]] w fun v w' => v = .bool (decide (n1 = n2 ∧ z1 = z2)) ∧ Chg 0 0 w w' := by
 have hv10 := hv1.fit
 have hv20 := hv2.fit
 refine sx_enter Tryz.func41 rfl Tryz.ntmps41 (nbl rfl) ?_
 refine sx_seq fun K1 k1 => sx_region ?_
 refine sx_box [.bool n1, v1] rfl rfl rfl (fun b2 w3 eb2 sb2 fb2 cb2 => ?_)
 have zw3 := cb2.size
 refine sx_box [.bool n2, v2] rfl rfl rfl (fun b4 w5 eb4 sb4 fb4 cb4 => ?_)
 have zw5 := cb4.size
 refine av rfl rfl (wl_nil (q_n (k1 _ _ ?_)))
 refine sx_seq fun K6 k6 => ?_
 refine sx_seq fun K7 k7 => sx_region ?_
 refine sp rfl (px_field rfl xfld28x0) ?_
 have f8 := fb2.ext cb4
 refine sp rfl (px_load rfl (f8.load1 rfl Tryz.isAgg4)) ?_
 refine sp rfl (px_field rfl xfld28x0) ?_
 refine sp rfl (px_load rfl (fb4.load1 rfl Tryz.isAgg4)) ?_
 refine sp rfl (px_neB Tryz.underlying4 rfl rfl) ?_
 refine wl_nil (q_n (k7 _ _ ?_))
 refine sx_condB rfl (fun h263 => ?_) (fun h263 => ?_)
 ·
  refine sx_seq fun K9 k9 => sx_region ?_
  refine av rfl rfl (wl_nil (q_n (k9 _ _ ?_)))
  refine sx_retc ?_
  refine q_r (sx_ret1 Tryz.results41 rfl ?_)
  exact ⟨(by first | exact bTrue (by grind) | exact bFalse (by grind) | exact bIff (by grind)), (cb2.t cb4)⟩
 refine sx_skip ?_
 refine q_n (k6 _ _ ?_)
 refine sx_seq fun K10 k10 => ?_
 refine sx_seq fun K11 k11 => sx_region ?_
 refine sp rfl (px_field rfl xfld28x1) ?_
 refine sp rfl (px_load rfl (f8.load1 rfl Tryz.isAgg26)) ?_
 refine sp rfl (px_field rfl xfld28x1) ?_
 refine sp rfl (px_load rfl (fb4.load1 rfl Tryz.isAgg26)) ?_
 have f12 := hv10.ext cb2
 have f13 := f12.ext cb4
 have f14 := hv20.ext cb2
 have f15 := f14.ext cb4
 refine sx_call rfl rfl Tryz.call42 (c_eqIntS f13 f15 (by omega)) (fun v16 w16 p16 => ?_)
 obtain ⟨rfl, c16⟩ := p16
 have zw16 := c16.size
 refine sp rfl (px_notP rfl) ?_
 refine wl_nil (q_n (k11 _ _ ?_))
 refine sx_sub (Sub.c 4 rfl (.c 15 rfl .nil)) ?_
 refine sx_condP rfl (fun h266 => ?_) (fun h266 => ?_)
 ·
  refine sx_seq fun K17 k17 => sx_region ?_
  refine av rfl rfl (wl_nil (q_n (k17 _ _ ?_)))
  refine sx_retc ?_
  refine q_r (sx_ret1 Tryz.results41 rfl ?_)
  exact ⟨(by first | exact bTrue (by grind) | exact bFalse (by grind) | exact bIff (by grind)), ((cb2.t cb4).t c16)⟩
 refine sx_skip ?_
 refine q_n (k10 _ _ ?_)
 refine sx_seq fun K18 k18 => sx_region ?_
 refine av rfl rfl (wl_nil (q_n (k18 _ _ ?_)))
 refine sx_retc ?_
 refine sx_ret1 Tryz.results41 rfl ?_
 exact ⟨(by first | exact bTrue (by grind) | exact bFalse (by grind) | exact bIff (by grind)), ((cb2.t cb4).t c16)⟩

theorem c_eqMoney {w : World} {c1 : ByteArray} {n1 : Bool} {v1 : Value} {lv1 uv1 : Nat} {z1 : List Int} {c2 : ByteArray} {n2 : Bool} {v2 : Value} {lv2 uv2 : Nat} {z2 : List Int} (hv1 : Sl w lv1 uv1 v1 (z1)) (hv2 : Sl w lv2 uv2 v2 (z2)) (h63 : z1.length ≤ 4611686018427387904 ∧ z2.length ≤ 4611686018427387904) :
  Ret Tryz.prog 22 [.agg #[.string c1, .bool n1, v1], .agg #[.string c2, .bool n2, v2]] w fun v w' => v = .bool (decide (c1 = c2 ∧ n1 = n2 ∧ z1 = z2)) ∧ Chg 0 0 w w' := by
 have hv10 := hv1.fit
 have hv20 := hv2.fit
 refine sx_enter Tryz.func22 rfl Tryz.ntmps22 (nbl rfl) ?_
 refine sx_seq fun K1 k1 => sx_region ?_
 refine sx_box [.string c1, .bool n1, v1] rfl rfl rfl (fun b2 w3 eb2 sb2 fb2 cb2 => ?_)
 have zw3 := cb2.size
 refine sx_box [.string c2, .bool n2, v2] rfl rfl rfl (fun b4 w5 eb4 sb4 fb4 cb4 => ?_)
 have zw5 := cb4.size
 refine av rfl rfl (wl_nil (q_n (k1 _ _ ?_)))
 refine sx_seq fun K6 k6 => ?_
 refine sx_seq fun K7 k7 => sx_region ?_
 refine sp rfl (px_field rfl xfld48x0) ?_
 have f8 := fb2.ext cb4
 refine sp rfl (px_load rfl (f8.load1 rfl Tryz.isAgg9)) ?_
 refine sp rfl (px_field rfl xfld48x0) ?_
 refine sp rfl (px_load rfl (fb4.load1 rfl Tryz.isAgg9)) ?_
 refine sp rfl (px_neS rfl rfl) ?_
 refine wl_nil (q_n (k7 _ _ ?_))
 refine sx_condP rfl (fun h447 => ?_) (fun h447 => ?_)
 ·
  refine sx_seq fun K9 k9 => sx_region ?_
  refine av rfl rfl (wl_nil (q_n (k9 _ _ ?_)))
  refine sx_retc ?_
  refine q_r (sx_ret1 Tryz.results22 rfl ?_)
  exact ⟨(by first | exact bTrue (by grind) | exact bFalse (by grind) | exact bIff (by grind)), (cb2.t cb4)⟩
 refine sx_skip ?_
 refine q_n (k6 _ _ ?_)
 refine sx_seq fun K10 k10 => ?_
 refine sx_seq fun K11 k11 => sx_region ?_
 refine sp rfl (px_field rfl xfld48x1) ?_
 refine sp rfl (px_load rfl (f8.loadA (vs := [.bool n1, v1]) (look_lit rfl) Tryz.isAgg28 Tryz.sizeOf28)) ?_
 refine sp rfl (px_field rfl xfld48x1) ?_
 refine sp rfl (px_load rfl (fb4.loadA (vs := [.bool n2, v2]) (look_lit rfl) Tryz.isAgg28 Tryz.sizeOf28)) ?_
 have f12 := hv10.ext cb2
 have f13 := f12.ext cb4
 have f14 := hv20.ext cb2
 have f15 := f14.ext cb4
 refine sx_call rfl rfl Tryz.call41 (c_eqSigned f13 f15 (by omega)) (fun v16 w16 p16 => ?_)
 obtain ⟨rfl, c16⟩ := p16
 have zw16 := c16.size
 refine sp rfl (px_notP rfl) ?_
 refine wl_nil (q_n (k11 _ _ ?_))
 refine sx_sub (Sub.c 4 rfl (.c 15 rfl .nil)) ?_
 refine sx_condP rfl (fun h450 => ?_) (fun h450 => ?_)
 ·
  refine sx_seq fun K17 k17 => sx_region ?_
  refine av rfl rfl (wl_nil (q_n (k17 _ _ ?_)))
  refine sx_retc ?_
  refine q_r (sx_ret1 Tryz.results22 rfl ?_)
  exact ⟨(by first | exact bTrue (by grind) | exact bFalse (by grind) | exact bIff (by grind)), ((cb2.t cb4).t c16)⟩
 refine sx_skip ?_
 refine q_n (k10 _ _ ?_)
 refine sx_seq fun K18 k18 => sx_region ?_
 refine av rfl rfl (wl_nil (q_n (k18 _ _ ?_)))
 refine sx_retc ?_
 refine sx_ret1 Tryz.results22 rfl ?_
 exact ⟨(by first | exact bTrue (by grind) | exact bFalse (by grind) | exact bIff (by grind)), ((cb2.t cb4).t c16)⟩

theorem c_eqDec {w : World} {n1 : Bool} {v1 : Value} {lv1 uv1 : Nat} {z1 : List Int} {p1 : Int} {n2 : Bool} {v2 : Value} {lv2 uv2 : Nat} {z2 : List Int} {p2 : Int} (hv1 : Sl w lv1 uv1 v1 (z1)) (hv2 : Sl w lv2 uv2 v2 (z2)) (h63 : z1.length ≤ 4611686018427387904 ∧ z2.length ≤ 4611686018427387904) :
  Ret Tryz.prog 121 [.agg #[.bool n1, v1, .int .i64 p1], .agg #[.bool n2, v2, .int .i64 p2]] w fun v w' => v = .bool (decide (n1 = n2 ∧ z1 = z2 ∧ p1 = p2)) ∧ Chg 0 0 w w' := by
 have hv10 := hv1.fit
 have hv20 := hv2.fit
 refine sx_enter Tryz.func121 rfl Tryz.ntmps121 (nbl rfl) ?_
 refine sx_seq fun K1 k1 => sx_region ?_
 refine sx_box [.bool n1, v1, .int .i64 p1] rfl rfl rfl (fun b2 w3 eb2 sb2 fb2 cb2 => ?_)
 have zw3 := cb2.size
 refine sx_box [.bool n2, v2, .int .i64 p2] rfl rfl rfl (fun b4 w5 eb4 sb4 fb4 cb4 => ?_)
 have zw5 := cb4.size
 refine av rfl rfl (wl_nil (q_n (k1 _ _ ?_)))
 refine sx_seq fun K6 k6 => ?_
 refine sx_seq fun K7 k7 => sx_region ?_
 refine sp rfl (px_field rfl xfld63x0) ?_
 have f8 := fb2.ext cb4
 refine sp rfl (px_load rfl (f8.loadA (vs := [.bool n1, v1]) (look_lit rfl) Tryz.isAgg28 Tryz.sizeOf28)) ?_
 refine sp rfl (px_field rfl xfld63x0) ?_
 refine sp rfl (px_load rfl (fb4.loadA (vs := [.bool n2, v2]) (look_lit rfl) Tryz.isAgg28 Tryz.sizeOf28)) ?_
 have f9 := hv10.ext cb2
 have f10 := f9.ext cb4
 have f11 := hv20.ext cb2
 have f12 := f11.ext cb4
 refine sx_call rfl rfl Tryz.call41 (c_eqSigned f10 f12 (by omega)) (fun v13 w13 p13 => ?_)
 obtain ⟨rfl, c13⟩ := p13
 have zw13 := c13.size
 refine sp rfl (px_notP rfl) ?_
 refine wl_nil (q_n (k7 _ _ ?_))
 refine sx_condP rfl (fun h405 => ?_) (fun h405 => ?_)
 ·
  refine sx_seq fun K14 k14 => sx_region ?_
  refine av rfl rfl (wl_nil (q_n (k14 _ _ ?_)))
  refine sx_retc ?_
  refine q_r (sx_ret1 Tryz.results121 rfl ?_)
  exact ⟨(by first | exact bTrue (by grind) | exact bFalse (by grind) | exact bIff (by grind)), ((cb2.t cb4).t c13)⟩
 refine sx_skip ?_
 refine q_n (k6 _ _ ?_)
 refine sx_seq fun K15 k15 => ?_
 refine sx_seq fun K16 k16 => sx_region ?_
 refine sp rfl (px_field rfl xfld63x1) ?_
 have f17 := f8.ext c13
 refine sp rfl (px_load rfl (f17.load1 rfl Tryz.isAgg3)) ?_
 refine sp rfl (px_field rfl xfld63x1) ?_
 have f18 := fb4.ext c13
 refine sp rfl (px_load rfl (f18.load1 rfl Tryz.isAgg3)) ?_
 refine sp rfl (px_ne rfl rfl) ?_
 refine wl_nil (q_n (k16 _ _ ?_))
 refine sx_sub (Sub.c 4 rfl (.c 15 rfl .nil)) ?_
 refine sx_condP rfl (fun h408 => ?_) (fun h408 => ?_)
 ·
  refine sx_seq fun K19 k19 => sx_region ?_
  refine av rfl rfl (wl_nil (q_n (k19 _ _ ?_)))
  refine sx_retc ?_
  refine q_r (sx_ret1 Tryz.results121 rfl ?_)
  exact ⟨(by first | exact bTrue (by grind) | exact bFalse (by grind) | exact bIff (by grind)), ((cb2.t cb4).t c13)⟩
 refine sx_skip ?_
 refine q_n (k15 _ _ ?_)
 refine sx_seq fun K20 k20 => sx_region ?_
 refine av rfl rfl (wl_nil (q_n (k20 _ _ ?_)))
 refine sx_retc ?_
 refine sx_ret1 Tryz.results121 rfl ?_
 exact ⟨(by first | exact bTrue (by grind) | exact bFalse (by grind) | exact bIff (by grind)), ((cb2.t cb4).t c13)⟩

theorem c_eqRate {w : World} {f1 : ByteArray} {t1 : ByteArray} {n1 : Bool} {v1 : Value} {lv1 uv1 : Nat} {z1 : List Int} {p1 : Int} {f2 : ByteArray} {t2 : ByteArray} {n2 : Bool} {v2 : Value} {lv2 uv2 : Nat} {z2 : List Int} {p2 : Int} (hv1 : Sl w lv1 uv1 v1 (z1)) (hv2 : Sl w lv2 uv2 v2 (z2)) (h63 : z1.length ≤ 4611686018427387904 ∧ z2.length ≤ 4611686018427387904) :
  Ret Tryz.prog 86 [.agg #[.string f1, .string t1, .bool n1, v1, .int .i64 p1], .agg #[.string f2, .string t2, .bool n2, v2, .int .i64 p2]] w fun v w' => v = .bool (decide (f1 = f2 ∧ t1 = t2 ∧ n1 = n2 ∧ z1 = z2 ∧ p1 = p2)) ∧ Chg 0 0 w w' := by
 have hv10 := hv1.fit
 have hv20 := hv2.fit
 refine sx_enter Tryz.func86 rfl Tryz.ntmps86 (nbl rfl) ?_
 refine sx_seq fun K1 k1 => sx_region ?_
 refine sx_box [.string f1, .string t1, .bool n1, v1, .int .i64 p1] rfl rfl rfl (fun b2 w3 eb2 sb2 fb2 cb2 => ?_)
 have zw3 := cb2.size
 refine sx_box [.string f2, .string t2, .bool n2, v2, .int .i64 p2] rfl rfl rfl (fun b4 w5 eb4 sb4 fb4 cb4 => ?_)
 have zw5 := cb4.size
 refine av rfl rfl (wl_nil (q_n (k1 _ _ ?_)))
 refine sx_seq fun K6 k6 => ?_
 refine sx_seq fun K7 k7 => sx_region ?_
 refine sp rfl (px_field rfl xfld99x0) ?_
 have f8 := fb2.ext cb4
 refine sp rfl (px_load rfl (f8.load1 rfl Tryz.isAgg9)) ?_
 refine sp rfl (px_field rfl xfld99x0) ?_
 refine sp rfl (px_load rfl (fb4.load1 rfl Tryz.isAgg9)) ?_
 refine sp rfl (px_neS rfl rfl) ?_
 refine wl_nil (q_n (k7 _ _ ?_))
 refine sx_condP rfl (fun h557 => ?_) (fun h557 => ?_)
 ·
  refine sx_seq fun K9 k9 => sx_region ?_
  refine av rfl rfl (wl_nil (q_n (k9 _ _ ?_)))
  refine sx_retc ?_
  refine q_r (sx_ret1 Tryz.results86 rfl ?_)
  exact ⟨(by first | exact bTrue (by grind) | exact bFalse (by grind) | exact bIff (by grind)), (cb2.t cb4)⟩
 refine sx_skip ?_
 refine q_n (k6 _ _ ?_)
 refine sx_seq fun K10 k10 => ?_
 refine sx_seq fun K11 k11 => sx_region ?_
 refine sp rfl (px_field rfl xfld99x1) ?_
 refine sp rfl (px_load rfl (f8.load1 rfl Tryz.isAgg9)) ?_
 refine sp rfl (px_field rfl xfld99x1) ?_
 refine sp rfl (px_load rfl (fb4.load1 rfl Tryz.isAgg9)) ?_
 refine sp rfl (px_neS rfl rfl) ?_
 refine wl_nil (q_n (k11 _ _ ?_))
 refine sx_sub (Sub.c 2 rfl (.c 3 rfl (.c 4 rfl (.c 14 rfl .nil)))) ?_
 refine sx_condP rfl (fun h560 => ?_) (fun h560 => ?_)
 ·
  refine sx_seq fun K12 k12 => sx_region ?_
  refine av rfl rfl (wl_nil (q_n (k12 _ _ ?_)))
  refine sx_retc ?_
  refine q_r (sx_ret1 Tryz.results86 rfl ?_)
  exact ⟨(by first | exact bTrue (by grind) | exact bFalse (by grind) | exact bIff (by grind)), (cb2.t cb4)⟩
 refine sx_skip ?_
 refine q_n (k10 _ _ ?_)
 refine sx_seq fun K13 k13 => ?_
 refine sx_seq fun K14 k14 => sx_region ?_
 refine sp rfl (px_field rfl xfld99x2) ?_
 refine sp rfl (px_load rfl (f8.loadA (vs := [.bool n1, v1, .int .i64 p1]) (look_lit rfl) Tryz.isAgg63 Tryz.sizeOf63)) ?_
 refine sp rfl (px_field rfl xfld99x2) ?_
 refine sp rfl (px_load rfl (fb4.loadA (vs := [.bool n2, v2, .int .i64 p2]) (look_lit rfl) Tryz.isAgg63 Tryz.sizeOf63)) ?_
 have f15 := hv10.ext cb2
 have f16 := f15.ext cb4
 have f17 := hv20.ext cb2
 have f18 := f17.ext cb4
 refine sx_call rfl rfl Tryz.call121 (c_eqDec f16 f18 (by omega)) (fun v19 w19 p19 => ?_)
 obtain ⟨rfl, c19⟩ := p19
 have zw19 := c19.size
 refine sp rfl (px_notP rfl) ?_
 refine wl_nil (q_n (k14 _ _ ?_))
 refine sx_condP rfl (fun h563 => ?_) (fun h563 => ?_)
 ·
  refine sx_seq fun K20 k20 => sx_region ?_
  refine av rfl rfl (wl_nil (q_n (k20 _ _ ?_)))
  refine sx_retc ?_
  refine q_r (sx_ret1 Tryz.results86 rfl ?_)
  exact ⟨(by first | exact bTrue (by grind) | exact bFalse (by grind) | exact bIff (by grind)), ((cb2.t cb4).t c19)⟩
 refine sx_skip ?_
 refine q_n (k13 _ _ ?_)
 refine sx_seq fun K21 k21 => sx_region ?_
 refine av rfl rfl (wl_nil (q_n (k21 _ _ ?_)))
 refine sx_retc ?_
 refine sx_ret1 Tryz.results86 rfl ?_
 exact ⟨(by first | exact bTrue (by grind) | exact bFalse (by grind) | exact bIff (by grind)), ((cb2.t cb4).t c19)⟩

theorem c_eqRateS {w : World} {va : Value} {lva uva : Nat} {ts : List Rt} {vva : List Value} {vb : Value} {lvb uvb : Nat} {rs : List Rt} {vvb : List Value} (hva : RtS w lva uva va ts vva) (hvb : RtS w lvb uvb vb rs vvb) (h63 : ts.length ≤ 1048576 ∧ rs.length ≤ 1048576) (hz1 : ∀ i, i < ts.length → (ts.getD i rt0).2.2.2.1.length ≤ 1048576) (hz2 : ∀ i, i < rs.length → (rs.getD i rt0).2.2.2.1.length ≤ 1048576) :
  Ret Tryz.prog 43 [va, vb] w fun v w' => v = .bool (decide (ts = rs)) ∧ Chg 0 0 w w' := by
 have hva0 := hva.fit
 have hvb0 := hvb.fit
 refine sx_enter Tryz.func43 rfl Tryz.ntmps43 (nbl rfl) ?_
 refine sx_seq fun K1 k1 => sx_region ?_
 refine av rfl rfl (wl_nil (q_n (k1 _ _ ?_)))
 refine sx_seq fun K2 k2 => ?_
 refine sx_seq fun K3 k3 => sx_region ?_
 refine mv rfl rfl (sp rfl (px_len rfl Tryz.underlying33 hva0.sv) ?_)
 refine mv rfl rfl (sp rfl (px_len rfl Tryz.underlying33 hvb0.sv) ?_)
 refine sp rfl (px_ne rfl rfl) ?_
 refine wl_nil (q_n (k3 _ _ ?_))
 refine sx_condP rfl (fun h611 => ?_) (fun h611 => ?_)
 ·
  refine sx_seq fun K4 k4 => sx_region ?_
  refine av rfl rfl (wl_nil (q_n (k4 _ _ ?_)))
  refine sx_retc ?_
  refine q_r (sx_ret1 Tryz.results43 rfl ?_)
  exact ⟨bFalse (len_ne_rt (by omega)), (Chg.refl 0 0 _)⟩
 refine sx_skip ?_
 refine q_n (k2 _ _ ?_)
 refine sx_seq fun K5 k5 => ?_
 refine sx_seq fun K6 k6 => sx_region ?_
 refine av rfl rfl (wl_nil (q_n (k6 _ _ ?_)))
 refine sx_block ?_
 refine sx_loop (fun mm aa w' => ∃ (k : Nat), Agr 27 [(0, va), (1, vb), (5, .int .i64 ↑k)] aa ∧ Chg 0 0 w w' ∧ (mm = ts.length - k) ∧ (k ≤ ts.length) ∧ (ts.take k = rs.take k)) (_) (fun a ha => ⟨0, ha.sub (Sub.c 0 rfl (.c 1 rfl (.c 5 (look_int (t := 5) rfl (by first | omega | simp)) .nil))), Chg.refl _ _ _, rfl, by omega, by simp⟩) ?_
 rintro mm aa wl7 ⟨k, hAwl7, cwl7, hm, hk, he⟩
 refine (show cw Tryz.prog 27 _ _ _ wl7 from ?_) aa hAwl7
 clear hAwl7
 have zwl7 := cwl7.size
 refine sx_seq fun K8 k8 => ?_
 refine sx_seq fun K9 k9 => sx_region ?_
 refine mv rfl rfl (mv rfl rfl ?_)
 have f10 := hva0.ext cwl7
 refine sp rfl (px_len rfl Tryz.underlying33 f10.sv) ?_
 refine sp rfl (px_lt rfl rfl) ?_
 refine wl_nil (q_n (k9 _ _ ?_))
 refine sx_condP rfl (fun h614 => ?_) (fun h614 => ?_)
 ·
  refine sx_skip ?_
  refine q_n (k8 _ _ ?_)
  refine sx_seq fun K11 k11 => ?_
  refine sx_block ?_
  refine sx_seq fun K12 k12 => ?_
  have f13 := hvb0.ext cwl7
  refine dx_region (fun w' => Chg 0 0 wl7 w') (by kernel_rfl) (Chg.zero (Chg.drew _)) ?_
  have d14 := Chg.drew wl7
  have s14 : Chg 0 0 wl7 (World.drew wl7) := Chg.zero (Chg.drew _)
  have y14 : (World.drew wl7).heap.size = wl7.heap.size := rfl
  generalize World.drew wl7 = w14 at *
  have zw14 := d14.size
  refine dt 0 rfl rfl rfl rfl s14 (fun _ hS => px_move rfl) ?_
  refine dt 1 rfl rfl rfl rfl s14 (fun _ hS => px_move rfl) ?_
  refine dt 2 rfl rfl rfl rfl s14 (fun _ hS => px_indexK (j := k) rfl rfl (by omega) Tryz.underlying33 Tryz.sizeOf99 ((f10.sv).chg hS (by omega)) (by omega)) ?_
  refine dt 3 rfl rfl rfl rfl s14 (fun _ hS => px_load rfl (((f10.sv).chg hS (by omega)).loadA (rt_look f10.len (by omega)) Tryz.isAgg99 Tryz.sizeOf99)) ?_
  refine dt 4 rfl rfl rfl rfl s14 (fun _ hS => px_move rfl) ?_
  refine dt 5 rfl rfl rfl rfl s14 (fun _ hS => px_move rfl) ?_
  refine dt 6 rfl rfl rfl rfl s14 (fun _ hS => px_indexK (j := k) rfl rfl (by omega) Tryz.underlying33 Tryz.sizeOf99 ((f13.sv).chg hS (by omega)) (by omega)) ?_
  refine dt 7 rfl rfl rfl rfl s14 (fun _ hS => px_load rfl (((f13.sv).chg hS (by omega)).loadA (rt_look f13.len (by omega)) Tryz.isAgg99 Tryz.sizeOf99)) ?_
  refine dx_eff 8 rfl (by kernel_rfl) ?_
  have f15 := (f10.nest k (by omega)).ext d14
  have f16 := (f13.nest k (by omega)).ext d14
  refine sx_call rfl rfl Tryz.call86 (c_eqRate f15 f16 (by have h1 := hz1 k (by omega); have h2 := hz2 k (by omega); omega)) (fun v17 w17 p17 => ?_)
  obtain ⟨rfl, c17⟩ := p17
  have zw17 := c17.size
  have s18 : Chg 0 0 wl7 w17 := (d14.t c17)
  refine wl_nil ?_
  refine dx_next s18 ?_
  refine dt 9 rfl rfl rfl rfl s18 (fun _ hS => px_notP rfl) ?_
  refine dx_done (by kernel_rfl) ?_
  refine q_n (k12 _ _ ?_)
  refine sx_sub (Sub.c 0 rfl (.c 1 rfl (.c 5 rfl (.c 26 rfl .nil)))) ?_
  refine sx_condP rfl (fun h615 => ?_) (fun h615 => ?_)
  ·
   refine sx_seq fun K19 k19 => sx_region ?_
   refine av rfl rfl (wl_nil (q_n (k19 _ _ ?_)))
   refine sx_retc ?_
   refine q_br (q_r (q_r (q_br (q_r (sx_ret1 Tryz.results43 rfl ?_)))))
   exact ⟨bFalse (rt_ne h615), ((cwl7.t d14).t c17)⟩
  refine sx_skip ?_
  refine q_bn (q_n (k11 _ _ ?_))
  refine sx_region ?_
  refine mv rfl rfl (sp rfl (px_add rfl rfl (by omega)) ?_)
  refine av rfl rfl (wl_nil ?_)
  exact fun a ha => ⟨_, by omega, (k + 1), ha.sub (Sub.c 0 rfl (.c 1 rfl (.c 5 (look_int (t := 5) rfl (by first | omega | simp)) .nil))), ((cwl7.t d14).t c17), rfl, by omega, rt_take_succ_eq he (by omega) (by omega) (rt_eq (Decidable.not_not.1 h615))⟩
 refine sx_exit ?_
 refine q_e (q_e (q_bx (q_n (k5 _ _ ?_))))
 refine sx_seq fun K20 k20 => sx_region ?_
 refine av rfl rfl (wl_nil (q_n (k20 _ _ ?_)))
 refine sx_retc ?_
 refine sx_ret1 Tryz.results43 rfl ?_
 have e1 : k = ts.length := by omega
 rw [e1, List.take_length, List.take_of_length_le (by omega)] at he
 exact ⟨bTrue he, cwl7⟩

theorem c_eqRates {w : World} {pv : ByteArray} {va : Value} {lva uva : Nat} {ts : List Rt} {vva : List Value} {qv : ByteArray} {vb : Value} {lvb uvb : Nat} {rs : List Rt} {vvb : List Value} (hva : RtS w lva uva va ts vva) (hvb : RtS w lvb uvb vb rs vvb) (h63 : ts.length ≤ 1048576 ∧ rs.length ≤ 1048576) (hz1 : ∀ i, i < ts.length → (ts.getD i rt0).2.2.2.1.length ≤ 1048576) (hz2 : ∀ i, i < rs.length → (rs.getD i rt0).2.2.2.1.length ≤ 1048576) :
  Ret Tryz.prog 12 [.agg #[.string pv, va], .agg #[.string qv, vb]] w fun v w' => v = .bool (decide (pv = qv ∧ ts = rs)) ∧ Chg 0 0 w w' := by
 have hva0 := hva.fit
 have hvb0 := hvb.fit
 refine sx_enter Tryz.func12 rfl Tryz.ntmps12 (nbl rfl) ?_
 refine sx_seq fun K1 k1 => sx_region ?_
 refine sx_box [.string pv, va] rfl rfl rfl (fun b2 w3 eb2 sb2 fb2 cb2 => ?_)
 have zw3 := cb2.size
 refine sx_box [.string qv, vb] rfl rfl rfl (fun b4 w5 eb4 sb4 fb4 cb4 => ?_)
 have zw5 := cb4.size
 refine av rfl rfl (wl_nil (q_n (k1 _ _ ?_)))
 refine sx_seq fun K6 k6 => ?_
 refine sx_seq fun K7 k7 => sx_region ?_
 refine sp rfl (px_field rfl xfld35x0) ?_
 have f8 := fb2.ext cb4
 refine sp rfl (px_load rfl (f8.load1 rfl Tryz.isAgg9)) ?_
 refine sp rfl (px_field rfl xfld35x0) ?_
 refine sp rfl (px_load rfl (fb4.load1 rfl Tryz.isAgg9)) ?_
 refine sp rfl (px_neS rfl rfl) ?_
 refine wl_nil (q_n (k7 _ _ ?_))
 refine sx_condP rfl (fun h623 => ?_) (fun h623 => ?_)
 ·
  refine sx_seq fun K9 k9 => sx_region ?_
  refine av rfl rfl (wl_nil (q_n (k9 _ _ ?_)))
  refine sx_retc ?_
  refine q_r (sx_ret1 Tryz.results12 rfl ?_)
  exact ⟨(by first | exact bTrue (by grind) | exact bFalse (by grind) | exact bIff (by grind)), (cb2.t cb4)⟩
 refine sx_skip ?_
 refine q_n (k6 _ _ ?_)
 refine sx_seq fun K10 k10 => ?_
 refine sx_seq fun K11 k11 => sx_region ?_
 refine sp rfl (px_field rfl xfld35x1) ?_
 refine sp rfl (px_load rfl (f8.load1 rfl Tryz.isAgg33)) ?_
 refine sp rfl (px_field rfl xfld35x1) ?_
 refine sp rfl (px_load rfl (fb4.load1 rfl Tryz.isAgg33)) ?_
 have f12 := hva0.ext cb2
 have f13 := f12.ext cb4
 have f14 := hvb0.ext cb2
 have f15 := f14.ext cb4
 refine sx_call rfl rfl Tryz.call43 (c_eqRateS f13 f15 (by omega) (by assumption) (by assumption)) (fun v16 w16 p16 => ?_)
 obtain ⟨rfl, c16⟩ := p16
 have zw16 := c16.size
 refine sp rfl (px_notP rfl) ?_
 refine wl_nil (q_n (k11 _ _ ?_))
 refine sx_sub (Sub.c 4 rfl (.c 15 rfl .nil)) ?_
 refine sx_condP rfl (fun h626 => ?_) (fun h626 => ?_)
 ·
  refine sx_seq fun K17 k17 => sx_region ?_
  refine av rfl rfl (wl_nil (q_n (k17 _ _ ?_)))
  refine sx_retc ?_
  refine q_r (sx_ret1 Tryz.results12 rfl ?_)
  exact ⟨(by first | exact bTrue (by grind) | exact bFalse (by grind) | exact bIff (by grind)), ((cb2.t cb4).t c16)⟩
 refine sx_skip ?_
 refine q_n (k10 _ _ ?_)
 refine sx_seq fun K18 k18 => sx_region ?_
 refine av rfl rfl (wl_nil (q_n (k18 _ _ ?_)))
 refine sx_retc ?_
 refine sx_ret1 Tryz.results12 rfl ?_
 exact ⟨(by first | exact bTrue (by grind) | exact bFalse (by grind) | exact bIff (by grind)), ((cb2.t cb4).t c16)⟩

theorem c_markText {w : World} {n : Int} (hn : n ≤ 4611686018427387904) :
  Ret Tryz.prog 87 [.int .i64 n] w fun v w' => ∃ s, v = .string (s) ∧ Chg 0 0 w w' := by
 refine sx_enter Tryz.func87 rfl Tryz.ntmps87 (nbl rfl) ?_
 refine sx_seq fun K1 k1 => sx_region ?_
 refine av rfl rfl (wl_nil (q_n (k1 _ _ ?_)))
 refine sx_seq fun K2 k2 => ?_
 refine sx_seq fun K3 k3 => sx_region ?_
 refine mv rfl rfl (sp rfl (px_le rfl rfl) ?_)
 refine wl_nil (q_n (k3 _ _ ?_))
 refine sx_condP rfl (fun h138 => ?_) (fun h138 => ?_)
 ·
  refine sx_seq fun K4 k4 => sx_region ?_
  refine av rfl rfl (wl_nil (q_n (k4 _ _ ?_)))
  refine sx_retc ?_
  refine q_r (sx_ret1 Tryz.results87 rfl ?_)
  exact ⟨_, rfl, (Chg.refl 0 0 _)⟩
 refine sx_skip ?_
 refine q_n (k2 _ _ ?_)
 refine sx_seq fun K5 k5 => sx_region ?_
 refine av rfl rfl (wl_nil (q_n (k5 _ _ ?_)))
 refine sx_seq fun K6 k6 => ?_
 refine sx_block ?_
 refine sx_loop (fun mm aa w' => ∃ (m : Int) (s : ByteArray), Agr 20 [(0, .int .i64 m), (3, .string s)] aa ∧ Chg 0 0 w w' ∧ (mm = m.toNat) ∧ (0 ≤ m ∧ m ≤ 4611686018427387904) ∧ (↑s.size + m ≤ 4611686018427387904)) (_) (fun a ha => ⟨n, ⟨#[]⟩, ha.sub (Sub.c 0 (look_int (t := 0) rfl (by first | omega | simp)) (.c 3 rfl .nil)), Chg.refl _ _ _, rfl, by omega, by have : (⟨#[]⟩ : ByteArray).size = 0 := rfl; omega⟩) ?_
 rintro mm aa wl7 ⟨m, s, hAwl7, cwl7, hm, hm0, hsz⟩
 refine (show cw Tryz.prog 20 _ _ _ wl7 from ?_) aa hAwl7
 clear hAwl7
 have zwl7 := cwl7.size
 refine sx_seq fun K8 k8 => ?_
 refine sx_seq fun K9 k9 => sx_region ?_
 refine mv rfl rfl (sp rfl (px_gt rfl rfl) ?_)
 refine wl_nil (q_n (k9 _ _ ?_))
 refine sx_condP rfl (fun h142 => ?_) (fun h142 => ?_)
 ·
  refine sx_skip ?_
  refine q_n (k8 _ _ ?_)
  refine sx_block ?_
  refine sx_seq fun K10 k10 => sx_region ?_
  refine mv rfl rfl (sp rfl (px_rem rfl rfl (by omega) (by omega)) ?_)
  refine sp rfl (px_add rfl rfl (by omega)) ?_
  refine sp rfl (px_convU8 Tryz.underlying3 Tryz.underlying5 rfl (by omega)) ?_
  refine sx_lit1 rfl xelt137 rfl rfl (fun s11 ws11 ss11 fs11 cs11 => ?_)
  have zws11 := cs11.size
  refine sp rfl (px_convS1 Tryz.underlying137 Tryz.underlying9 Tryz.underlying5 rfl fs11.sv) ?_
  refine mv rfl rfl (sp rfl (px_cat rfl rfl (by first | omega | (simp only [byteS_size]; omega) | (have : (⟨#[109]⟩ : ByteArray).size = 1 := rfl; omega))) ?_)
  refine av rfl rfl (wl_nil (q_n (k10 _ _ ?_)))
  refine sx_region ?_
  refine mv rfl rfl (sp rfl (px_quo rfl rfl (by omega) (by omega) (by omega)) ?_)
  refine av rfl rfl (wl_nil ?_)
  exact q_bn (fun a ha => ⟨_, by omega, (m / 10), ((byteS (48 + (m % 10))) ++ s), ha.sub (Sub.c 0 (look_int (t := 0) rfl (by first | omega | simp)) (.c 3 rfl .nil)), (cwl7.t cs11), rfl, by omega, by rw [ByteArray.size_append, byteS_size]; omega⟩)
 refine sx_exit ?_
 refine q_e (q_e (q_bx (q_n (k6 _ _ ?_))))
 refine sx_seq fun K12 k12 => sx_region ?_
 refine mv rfl rfl (sp rfl (px_cat rfl rfl (by first | omega | (simp only [byteS_size]; omega) | (have : (⟨#[109]⟩ : ByteArray).size = 1 := rfl; omega))) ?_)
 refine av rfl rfl (wl_nil (q_n (k12 _ _ ?_)))
 refine sx_retc ?_
 refine sx_ret1 Tryz.results87 rfl ?_
 exact ⟨_, rfl, cwl7⟩

theorem c_markIntS {w : World} {va : Value} {lva uva : Nat} {zs : List Int} {n : Int} (hva : OwnI w lva uva va intT (zs)) (h63 : zs.length ≤ 1048576) (hn : 0 ≤ n ∧ n ≤ 4611686018427387904) :
  Ret Tryz.prog 46 [va, .int .i64 n] w fun v w' => v = .int .i64 (n + ↑(zs).length) ∧ OwnI w' (lva) (uva) va intT (mk n (zs).length) ∧ Chg lva uva w w' := by
 refine sx_enter Tryz.func46 rfl Tryz.ntmps46 (nbl rfl) ?_
 refine sx_seq fun K1 k1 => sx_region ?_
 refine av rfl rfl (wl_nil (q_n (k1 _ _ ?_)))
 refine sx_seq fun K2 k2 => ?_
 refine sx_seq fun K3 k3 => sx_region ?_
 refine av rfl rfl (wl_nil (q_n (k3 _ _ ?_)))
 refine sx_block ?_
 refine sx_loop (fun mm aa w' => ∃ (k : Nat) (os : List Int), Agr 19 [(0, va), (1, .int .i64 (n + ↑k)), (5, .int .i64 ↑k)] aa ∧ Chg lva uva w w' ∧ Own w' lva uva va intT os.length 1 (os.map (Value.int .i64)) ∧ (mm = zs.length - k) ∧ (k ≤ zs.length) ∧ (os.length = zs.length) ∧ (os.take k = mk n k)) (_) (fun a ha => ⟨0, zs, ha.sub (Sub.c 0 rfl (.c 1 (look_int (t := 1) rfl (by first | omega | simp)) (.c 5 (look_int (t := 5) rfl (by first | omega | simp)) .nil))), Chg.refl _ _ _, hva, rfl, by omega, rfl, rfl⟩) ?_
 rintro mm aa wl4 ⟨k, os, hAwl4, cwl4, hs_va, hm, hk, ho, he⟩
 refine (show cw Tryz.prog 19 _ _ _ wl4 from ?_) aa hAwl4
 clear hAwl4
 have zwl4 := cwl4.size
 refine sx_seq fun K5 k5 => ?_
 refine sx_seq fun K6 k6 => sx_region ?_
 refine mv rfl rfl (mv rfl rfl (sp rfl (px_len rfl Tryz.underlying26 hs_va.sv) ?_))
 refine sp rfl (px_lt rfl rfl) ?_
 refine wl_nil (q_n (k6 _ _ ?_))
 refine sx_condP rfl (fun h222 => ?_) (fun h222 => ?_)
 ·
  refine sx_skip ?_
  refine q_n (k5 _ _ ?_)
  refine sx_seq fun K7 k7 => ?_
  refine sx_block ?_
  refine sx_seq fun K8 k8 => sx_region ?_
  refine mv rfl rfl (mv rfl rfl (mv rfl rfl (sp rfl (px_index1 (j := k) rfl rfl (by omega) Tryz.underlying26 Tryz.sizeOf3 hs_va.sv (by omega)) ?_)))
  refine sx_storeO rfl rfl hs_va (by first | omega | (simp only [List.length_map]; omega)) Tryz.sizeOf3 rfl (fun w9 sw9 fw9 cw9 => ?_)
  have zw9 := cw9.size
  have nw9 := fw9.set
  refine wl_nil (q_n (k8 _ _ ?_))
  refine sx_region ?_
  refine mv rfl rfl (sp rfl (px_add rfl rfl (by omega)) ?_)
  refine av rfl rfl (wl_nil ?_)
  refine q_bn (q_n (k7 _ _ ?_))
  refine sx_region ?_
  refine mv rfl rfl (sp rfl (px_add rfl rfl (by omega)) ?_)
  refine av rfl rfl (wl_nil ?_)
  have q10 := Chg.step (l := lva) (h := uva) cwl4 cw9 (by omega)
  exact fun a ha => ⟨_, by omega, (k + 1), (os.set k (n + ↑k)), ha.sub (Sub.c 0 rfl (.c 1 (look_int (t := 1) rfl (by first | omega | simp)) (.c 5 (look_int (t := 5) rfl (by first | omega | simp)) .nil))), q10, (nw9.mono (by omega) (by omega)), rfl, by omega, by simp [ho], mk_set he (by omega)⟩
 refine sx_exit ?_
 refine q_e (q_e (q_bx (q_n (k2 _ _ ?_))))
 refine sx_seq fun K11 k11 => sx_region ?_
 refine mv rfl rfl (av rfl rfl (wl_nil (q_n (k11 _ _ ?_))))
 refine sx_retc ?_
 refine sx_ret1 Tryz.results46 rfl ?_
 have ek : k = zs.length := by omega
 subst ek
 rw [← ho, List.take_length, ho] at he
 subst he
 exact ⟨rfl, hs_va, cwl4⟩

theorem c_markRateS {w : World} {vt : Value} {lvt uvt : Nat} {ts : List Rt} {vvt : List Value} {n : Int} (hvt : RtO w lvt uvt vt 99 intT ts vvt) (h63 : ts.length ≤ 1048576) (hzz : ∀ i, i < ts.length → (ts.getD i rt0).2.2.2.1.length ≤ 1048576) (hn : 0 ≤ n ∧ n ≤ 4000000000000000000) (hu : uvt ≤ w.heap.size) :
  Ret Tryz.prog 44 [vt, .int .i64 n] w fun v w' => ∃ ks, v = .int .i64 (n + ↑((ks : List Int)).length) ∧ (((ks : List Int)).length ≤ 1200000000000) ∧ Chg lvt uvt w w' := by
 obtain ⟨l1, h1, r, hvl, hvO, ha1, ha2, ha3, ha4, hvn⟩ := hvt
 refine sx_enter Tryz.func44 rfl Tryz.ntmps44 (nbl rfl) ?_
 refine sx_seq fun K1 k1 => sx_region ?_
 refine av rfl rfl (wl_nil (q_n (k1 _ _ ?_)))
 refine sx_seq fun K2 k2 => ?_
 refine sx_seq fun K3 k3 => sx_region ?_
 refine av rfl rfl (wl_nil (q_n (k3 _ _ ?_)))
 refine sx_block ?_
 refine sx_loop (fun mm aa w' => ∃ (k : Nat) (xs : List Value) (ks : List Int), Agr 57 [(0, vt), (1, .int .i64 (n + ↑ks.length)), (5, .int .i64 ↑k)] aa ∧ Chg lvt uvt w w' ∧ Own w' l1 h1 vt 99 ((ts).length) 5 (xs) ∧ (mm = ts.length - k) ∧ (k ≤ ts.length) ∧ (xs.length = ts.length * 5) ∧ (∀ i, k ≤ i → i < ts.length → xs[i * 5 + 3]? = some (vvt.getD i vz)) ∧ (∀ i, k ≤ i → i < ts.length → OwnI w' (r i) (r (i + 1)) (vvt.getD i vz) intT (ts.getD i rt0).2.2.2.1) ∧ (ks.length ≤ k * 1048580) ∧ (h1 ≤ r k)) (_) (fun a ha => ⟨0, rtCells ts vvt, [], ha.sub (Sub.c 0 rfl (.c 1 (look_int (t := 1) rfl (by first | omega | (simp only [List.length_append, List.length_replicate]; omega) | simp)) (.c 5 (look_int (t := 5) rfl (by first | omega | (simp only [List.length_append, List.length_replicate]; omega) | simp)) .nil))), Chg.refl _ _ _, hvO, rfl, by omega, rtCells_len hvl, rt_mag hvl rfl, fun i _ hi => hvn i hi, by simp, by omega⟩) ?_
 rintro mm aa wl4 ⟨k, xs, ks, hAwl4, cwl4, hs_vt, hm, hk, hxl, hx3, hne, hks, hrk⟩
 refine (show cw Tryz.prog 57 _ _ _ wl4 from ?_) aa hAwl4
 clear hAwl4
 have zwl4 := cwl4.size
 refine sx_seq fun K5 k5 => ?_
 refine sx_seq fun K6 k6 => sx_region ?_
 refine mv rfl rfl (mv rfl rfl (sp rfl (px_len rfl Tryz.underlying33 hs_vt.sv) ?_))
 refine sp rfl (px_lt rfl rfl) ?_
 refine wl_nil (q_n (k6 _ _ ?_))
 refine sx_condP rfl (fun h633 => ?_) (fun h633 => ?_)
 ·
  have hzk := hzz k (by omega)
  have hlh : l1 ≤ h1 := by rcases hvO.2 with ⟨h5, _⟩ | ⟨b5, cap5, sp5, _, h5, h6, _⟩ <;> omega
  have hrk1 := ha3 k (by omega)
  have hru := mono_le ha3 (show k + 1 ≤ ts.length by omega) (Nat.le_refl _)
  refine sx_skip ?_
  refine q_n (k5 _ _ ?_)
  refine sx_seq fun K7 k7 => ?_
  refine sx_block ?_
  refine sx_seq fun K8 k8 => sx_region ?_
  refine mv rfl rfl (mv rfl rfl (mv rfl rfl (sx_call rfl rfl Tryz.call87 (c_markText (by omega)) (fun v9 w9 p9 => ?_))))
  obtain ⟨s9, rfl, c9⟩ := p9
  have zw9 := c9.size
  have f10 := hs_vt.ext c9
  refine sp rfl (px_indexK (j := k) rfl rfl (by omega) Tryz.underlying33 Tryz.sizeOf99 f10.sv (by omega)) ?_
  refine sp rfl (px_field rfl xfld99x0) ?_
  refine sx_storeO (j := (k * 5) + 0) rfl rfl f10 (by first | omega | (simp only [List.length_set]; omega)) Tryz.sizeOf9 rfl (fun w11 sw11 fw11 cw11 => ?_)
  have zw11 := cw11.size
  refine wl_nil (q_n (k8 _ _ ?_))
  refine sx_seq fun K12 k12 => sx_region ?_
  refine mv rfl rfl (sp rfl (px_add rfl rfl (by omega)) ?_)
  refine av rfl rfl (wl_nil (q_n (k12 _ _ ?_)))
  refine sx_sub (Sub.c 0 rfl (.c 1 rfl (.c 5 rfl .nil))) ?_
  refine sx_seq fun K13 k13 => sx_region ?_
  refine mv rfl rfl (mv rfl rfl (mv rfl rfl (sx_call rfl rfl Tryz.call87 (c_markText (by omega)) (fun v14 w14 p14 => ?_))))
  obtain ⟨s14, rfl, c14⟩ := p14
  have zw14 := c14.size
  have f15 := fw11.ext c14
  refine sp rfl (px_indexK (j := k) rfl rfl (by omega) Tryz.underlying33 Tryz.sizeOf99 f15.sv (by omega)) ?_
  refine sp rfl (px_field rfl xfld99x1) ?_
  refine sx_storeO (j := (k * 5) + 1) rfl rfl f15 (by first | omega | (simp only [List.length_set]; omega)) Tryz.sizeOf9 rfl (fun w16 sw16 fw16 cw16 => ?_)
  have zw16 := cw16.size
  refine wl_nil (q_n (k13 _ _ ?_))
  refine sx_seq fun K17 k17 => sx_region ?_
  refine mv rfl rfl (sp rfl (px_add rfl rfl (by omega)) ?_)
  refine av rfl rfl (wl_nil (q_n (k17 _ _ ?_)))
  refine sx_seq fun K18 k18 => sx_region ?_
  refine mv rfl rfl (mv rfl rfl (mv rfl rfl (sp rfl (px_rem rfl rfl (by omega) (by omega)) ?_)))
  refine sp rfl (px_eq rfl rfl) ?_
  refine sp rfl (px_indexK (j := k) rfl rfl (by omega) Tryz.underlying33 Tryz.sizeOf99 fw16.sv (by omega)) ?_
  refine sp rfl (px_field rfl xfld99x2) ?_
  refine sp rfl (px_field rfl xfld63x0) ?_
  refine sp rfl (px_field rfl xfld28x0) ?_
  refine sx_storeO (j := (((k * 5) + 2) + 0) + 0) rfl rfl fw16 (by first | omega | (simp only [List.length_set]; omega)) Tryz.sizeOf4 rfl (fun w19 sw19 fw19 cw19 => ?_)
  have zw19 := cw19.size
  refine wl_nil (q_n (k18 _ _ ?_))
  refine sx_sub (Sub.c 0 rfl (.c 1 rfl (.c 5 rfl .nil))) ?_
  refine sx_seq fun K20 k20 => sx_region ?_
  refine mv rfl rfl (sp rfl (px_add rfl rfl (by omega)) ?_)
  refine av rfl rfl (wl_nil (q_n (k20 _ _ ?_)))
  refine sx_seq fun K21 k21 => sx_region ?_
  refine mv rfl rfl (mv rfl rfl (sp rfl (px_indexK (j := k) rfl rfl (by omega) Tryz.underlying33 Tryz.sizeOf99 fw19.sv (by omega)) ?_))
  refine sp rfl (px_field rfl xfld99x2) ?_
  refine sp rfl (px_field rfl xfld63x0) ?_
  refine sp rfl (px_field rfl xfld28x1) ?_
  refine sp rfl (px_load rfl (fw19.sv.load1 (by show _[k * 5 + 3]? = _; rw [List.getElem?_set_ne (by omega), List.getElem?_set_ne (by omega), List.getElem?_set_ne (by omega)]; exact hx3 k (Nat.le_refl _) (by omega)) Tryz.isAgg26)) ?_
  refine mv rfl rfl ?_
  have f23 := ((hne k (Nat.le_refl _) (by omega)).ext c9).chg cw11 (by omega)
  have f25 := (f23.ext c14).chg cw16 (by omega)
  have f26 := f25.chg cw19 (by omega)
  refine sx_call rfl rfl Tryz.call46 (c_markIntS f26 (hzz k (by omega)) (by omega)) (fun v27 w27 p27 => ?_)
  obtain ⟨rfl, ova_27, c27⟩ := p27
  have zw27 := c27.size
  refine av rfl rfl (wl_nil (q_n (k21 _ _ ?_)))
  refine sx_seq fun K28 k28 => sx_region ?_
  refine mv rfl rfl (mv rfl rfl (mv rfl rfl ?_))
  have f29 := fw19.chg c27 (by omega)
  refine sp rfl (px_indexK (j := k) rfl rfl (by omega) Tryz.underlying33 Tryz.sizeOf99 f29.sv (by omega)) ?_
  refine sp rfl (px_field rfl xfld99x2) ?_
  refine sp rfl (px_field rfl xfld63x1) ?_
  refine sx_storeO (j := ((k * 5) + 2) + 2) rfl rfl f29 (by first | omega | (simp only [List.length_set]; omega)) Tryz.sizeOf3 rfl (fun w30 sw30 fw30 cw30 => ?_)
  have zw30 := cw30.size
  refine wl_nil (q_n (k28 _ _ ?_))
  refine sx_sub (Sub.c 0 rfl (.c 1 rfl (.c 5 rfl .nil))) ?_
  refine sx_region ?_
  refine mv rfl rfl (sp rfl (px_add rfl rfl (by omega)) ?_)
  refine av rfl rfl (wl_nil ?_)
  refine q_bn (q_n (k7 _ _ ?_))
  refine sx_region ?_
  refine mv rfl rfl (sp rfl (px_add rfl rfl (by omega)) ?_)
  refine av rfl rfl (wl_nil ?_)
  have q31 := Chg.step (l := l1) (h := (r (k + 1))) (Chg.zero (l := l1) (h := (r (k + 1))) c9) cw11 (by omega)
  have q32 := Chg.step (l := l1) (h := (r (k + 1))) q31 c14 (by omega)
  have q33 := Chg.step (l := l1) (h := (r (k + 1))) q32 cw16 (by omega)
  have q34 := Chg.step (l := l1) (h := (r (k + 1))) q33 cw19 (by omega)
  have q35 := Chg.step (l := l1) (h := (r (k + 1))) q34 c27 (by omega)
  have q36 := Chg.step (l := l1) (h := (r (k + 1))) q35 cw30 (by omega)
  have q37 := Chg.step (l := lvt) (h := uvt) cwl4 c9 (by omega)
  have q38 := Chg.step (l := lvt) (h := uvt) q37 cw11 (by omega)
  have q39 := Chg.step (l := lvt) (h := uvt) q38 c14 (by omega)
  have q40 := Chg.step (l := lvt) (h := uvt) q39 cw16 (by omega)
  have q41 := Chg.step (l := lvt) (h := uvt) q40 cw19 (by omega)
  have q42 := Chg.step (l := lvt) (h := uvt) q41 c27 (by omega)
  have q43 := Chg.step (l := lvt) (h := uvt) q42 cw30 (by omega)
  exact fun a ha => ⟨_, by omega, (k + 1), (((((xs).set ((k * 5) + 0) (.string s9)).set ((k * 5) + 1) (.string s14)).set ((((k * 5) + 2) + 0) + 0) (.bool (decide (((((n + ↑ks.length) + 1) + 1) % 3 : Int) = 0)))).set (((k * 5) + 2) + 2) (.int .i64 (((((n + ↑ks.length) + 1) + 1) + 1) + ↑(((ts.getD k rt0).2.2.2.1)).length))), (ks ++ List.replicate (4 + ((ts.getD k rt0).2.2.2.1).length) 0), ha.sub (Sub.c 0 rfl (.c 1 (look_int (t := 1) rfl (by first | omega | (simp only [List.length_append, List.length_replicate]; omega) | simp)) (.c 5 (look_int (t := 5) rfl (by first | omega | (simp only [List.length_append, List.length_replicate]; omega) | simp)) .nil))), q43, (fw30.mono (by omega) (by omega)), rfl, by omega, by simp only [List.length_set]; exact hxl, cells_rest hx3 (fun j hj => by rw [List.getElem?_set_ne (by omega), List.getElem?_set_ne (by omega), List.getElem?_set_ne (by omega), List.getElem?_set_ne (by omega)]), nest_rest ha3 hne q36, by simp only [List.length_append, List.length_replicate]; omega, by omega⟩
 refine sx_exit ?_
 refine q_e (q_e (q_bx (q_n (k2 _ _ ?_))))
 refine sx_seq fun K44 k44 => sx_region ?_
 refine mv rfl rfl (av rfl rfl (wl_nil (q_n (k44 _ _ ?_))))
 refine sx_retc ?_
 refine sx_ret1 Tryz.results44 rfl ?_
 exact ⟨_, rfl, by omega, cwl4⟩

theorem c_markRates {w : World} {pv : ByteArray} {vt : Value} {lvt uvt : Nat} {ts : List Rt} {vvt : List Value} {n : Int} (hvt : RtO w lvt uvt vt 99 intT ts vvt) (h63 : ts.length ≤ 1048576) (hzz : ∀ i, i < ts.length → (ts.getD i rt0).2.2.2.1.length ≤ 1048576) (hn : 0 ≤ n ∧ n ≤ 4000000000000000000) (hu : uvt ≤ w.heap.size) :
  Ret Tryz.prog 13 [.agg #[.string pv, vt], .int .i64 n] w fun v w' => ∃ ks, v = .int .i64 (n + ↑((ks : List Int)).length) ∧ (((ks : List Int)).length ≤ 1200000000000) ∧ Chg lvt uvt w w' := by
 refine sx_enter Tryz.func13 rfl Tryz.ntmps13 (nbl rfl) ?_
 refine sx_seq fun K1 k1 => sx_region ?_
 refine sx_box [.string pv, vt] rfl rfl rfl (fun b2 w3 eb2 sb2 fb2 cb2 => ?_)
 have zw3 := cb2.size
 refine av rfl rfl (wl_nil (q_n (k1 _ _ ?_)))
 refine sx_seq fun K4 k4 => sx_region ?_
 refine sp rfl (px_field rfl xfld35x1) ?_
 refine sp rfl (px_load rfl (fb2.load1 rfl Tryz.isAgg33)) ?_
 refine mv rfl rfl ?_
 have f5 := hvt.ext cb2
 refine sx_call rfl rfl Tryz.call44 (c_markRateS f5 (by omega) (by assumption) (by omega) (by omega)) (fun v6 w6 p6 => ?_)
 obtain ⟨ks6, rfl, hk6, c6⟩ := p6
 have zw6 := c6.size
 refine av rfl rfl (wl_nil (q_n (k4 _ _ ?_)))
 refine sx_seq fun K7 k7 => sx_region ?_
 refine mv rfl rfl (av rfl rfl (wl_nil (q_n (k7 _ _ ?_))))
 refine sx_retc ?_
 refine sx_ret1 Tryz.results13 rfl ?_
 have q8 := Chg.step (l := lvt) (h := uvt) (Chg.zero (l := lvt) (h := uvt) cb2) c6 (by omega)
 exact ⟨_, rfl, by omega, q8⟩

theorem c_markSigned {w : World} {n1 : Bool} {v1 : Value} {lv1 uv1 : Nat} {z1 : List Int} {n : Int} (hv1 : OwnI w lv1 uv1 v1 intT (z1)) (h63 : z1.length ≤ 1048576) (hn : 0 ≤ n ∧ n ≤ 4611686018427387904) :
  Ret Tryz.prog 45 [.agg #[.bool n1, v1], .int .i64 n] w fun v w' => v = .int .i64 (n + ↑(z1).length) ∧ OwnI w' (lv1) (uv1) v1 intT (mk n (z1).length) ∧ Chg lv1 uv1 w w' := by
 refine sx_enter Tryz.func45 rfl Tryz.ntmps45 (nbl rfl) ?_
 refine sx_seq fun K1 k1 => sx_region ?_
 refine sx_box [.bool n1, v1] rfl rfl rfl (fun b2 w3 eb2 sb2 fb2 cb2 => ?_)
 have zw3 := cb2.size
 refine av rfl rfl (wl_nil (q_n (k1 _ _ ?_)))
 refine sx_seq fun K4 k4 => sx_region ?_
 refine sp rfl (px_field rfl xfld28x1) ?_
 refine sp rfl (px_load rfl (fb2.load1 rfl Tryz.isAgg26)) ?_
 refine mv rfl rfl ?_
 have f5 := hv1.ext cb2
 refine sx_call rfl rfl Tryz.call46 (c_markIntS f5 (by omega) (by omega)) (fun v6 w6 p6 => ?_)
 obtain ⟨rfl, ova_6, c6⟩ := p6
 have zw6 := c6.size
 refine av rfl rfl (wl_nil (q_n (k4 _ _ ?_)))
 refine sx_seq fun K7 k7 => sx_region ?_
 refine mv rfl rfl (av rfl rfl (wl_nil (q_n (k7 _ _ ?_))))
 refine sx_retc ?_
 refine sx_ret1 Tryz.results45 rfl ?_
 have q8 := Chg.step (l := lv1) (h := uv1) (Chg.zero (l := lv1) (h := uv1) cb2) c6 (by omega)
 exact ⟨rfl, ova_6, q8⟩

theorem c_markMoney {w : World} {c1 : ByteArray} {n1 : Bool} {v1 : Value} {lv1 uv1 : Nat} {z1 : List Int} {n : Int} (hv1 : OwnI w lv1 uv1 v1 intT (z1)) (h63 : z1.length ≤ 1048576) (hn : 0 ≤ n ∧ n ≤ 4611686018427387904) :
  Ret Tryz.prog 23 [.agg #[.string c1, .bool n1, v1], .int .i64 n] w fun v w' => v = .int .i64 (n + ↑(z1).length) ∧ OwnI w' (lv1) (uv1) v1 intT (mk n (z1).length) ∧ Chg lv1 uv1 w w' := by
 refine sx_enter Tryz.func23 rfl Tryz.ntmps23 (nbl rfl) ?_
 refine sx_seq fun K1 k1 => sx_region ?_
 refine sx_box [.string c1, .bool n1, v1] rfl rfl rfl (fun b2 w3 eb2 sb2 fb2 cb2 => ?_)
 have zw3 := cb2.size
 refine av rfl rfl (wl_nil (q_n (k1 _ _ ?_)))
 refine sx_seq fun K4 k4 => sx_region ?_
 refine sp rfl (px_field rfl xfld48x1) ?_
 refine sp rfl (px_load rfl (fb2.loadA (vs := [.bool n1, v1]) (look_lit rfl) Tryz.isAgg28 Tryz.sizeOf28)) ?_
 refine mv rfl rfl ?_
 have f5 := hv1.ext cb2
 refine sx_call rfl rfl Tryz.call45 (c_markSigned f5 (by omega) (by omega)) (fun v6 w6 p6 => ?_)
 obtain ⟨rfl, ov1_6, c6⟩ := p6
 have zw6 := c6.size
 refine av rfl rfl (wl_nil (q_n (k4 _ _ ?_)))
 refine sx_seq fun K7 k7 => sx_region ?_
 refine mv rfl rfl (av rfl rfl (wl_nil (q_n (k7 _ _ ?_))))
 refine sx_retc ?_
 refine sx_ret1 Tryz.results23 rfl ?_
 have q8 := Chg.step (l := lv1) (h := uv1) (Chg.zero (l := lv1) (h := uv1) cb2) c6 (by omega)
 exact ⟨rfl, ov1_6, q8⟩

theorem c_heldIntS {w : World} {va : Value} {lva uva : Nat} {zs : List Int} {n : Int} (hva : Sl w lva uva va (zs)) (h63 : zs.length ≤ 1048576) (hn : 0 ≤ n ∧ n ≤ 4611686018427387904) (hz : zs = mk n zs.length) :
  Ret Tryz.prog 48 [va, .int .i64 n] w fun v w' => v = .int .i64 (n + ↑(zs).length) ∧ Chg 0 0 w w' := by
 have hva0 := hva.fit
 refine sx_enter Tryz.func48 rfl Tryz.ntmps48 (nbl rfl) ?_
 refine sx_seq fun K1 k1 => sx_region ?_
 refine av rfl rfl (wl_nil (q_n (k1 _ _ ?_)))
 refine sx_seq fun K2 k2 => ?_
 refine sx_seq fun K3 k3 => sx_region ?_
 refine av rfl rfl (wl_nil (q_n (k3 _ _ ?_)))
 refine sx_block ?_
 refine sx_loop (fun mm aa w' => ∃ (k : Nat), Agr 21 [(0, va), (1, .int .i64 (n + ↑k)), (5, .int .i64 ↑k)] aa ∧ Chg 0 0 w w' ∧ (mm = zs.length - k) ∧ (k ≤ zs.length)) (_) (fun a ha => ⟨0, ha.sub (Sub.c 0 rfl (.c 1 (look_int (t := 1) rfl (by first | omega | simp)) (.c 5 (look_int (t := 5) rfl (by first | omega | simp)) .nil))), Chg.refl _ _ _, rfl, by omega⟩) ?_
 rintro mm aa wl4 ⟨k, hAwl4, cwl4, hm, hk⟩
 refine (show cw Tryz.prog 21 _ _ _ wl4 from ?_) aa hAwl4
 clear hAwl4
 have zwl4 := cwl4.size
 refine sx_seq fun K5 k5 => ?_
 refine sx_seq fun K6 k6 => sx_region ?_
 refine mv rfl rfl (mv rfl rfl ?_)
 have f7 := hva0.ext cwl4
 refine sp rfl (px_len rfl Tryz.underlying26 f7) ?_
 refine sp rfl (px_lt rfl rfl) ?_
 refine wl_nil (q_n (k6 _ _ ?_))
 refine sx_condP rfl (fun h230 => ?_) (fun h230 => ?_)
 ·
  refine sx_skip ?_
  refine q_n (k5 _ _ ?_)
  refine sx_seq fun K8 k8 => ?_
  refine sx_block ?_
  refine sx_seq fun K9 k9 => ?_
  refine sx_seq fun K10 k10 => sx_region ?_
  refine mv rfl rfl (mv rfl rfl (sp rfl (px_index1 (j := k) rfl rfl (by omega) Tryz.underlying26 Tryz.sizeOf3 f7 (by omega)) ?_))
  refine sp rfl (px_load rfl (f7.load1 (at_int (by omega)) Tryz.isAgg3)) ?_
  refine mv rfl rfl (sp rfl (px_ne rfl rfl) ?_)
  refine wl_nil (q_n (k10 _ _ ?_))
  have h231 : ¬ (((zs).getD k 0 : Int) ≠ n + ↑k) := fun h => h (by rw [hz]; exact mk_getD (by omega))
  refine sx_condPF rfl h231 ?_
  refine sx_skip ?_
  refine q_n (k9 _ _ ?_)
  refine sx_region ?_
  refine mv rfl rfl (sp rfl (px_add rfl rfl (by omega)) ?_)
  refine av rfl rfl (wl_nil ?_)
  refine q_bn (q_n (k8 _ _ ?_))
  refine sx_sub (Sub.c 0 rfl (.c 1 rfl (.c 5 rfl .nil))) ?_
  refine sx_region ?_
  refine mv rfl rfl (sp rfl (px_add rfl rfl (by omega)) ?_)
  refine av rfl rfl (wl_nil ?_)
  exact fun a ha => ⟨_, by omega, (k + 1), ha.sub (Sub.c 0 rfl (.c 1 (look_int (t := 1) rfl (by first | omega | simp)) (.c 5 (look_int (t := 5) rfl (by first | omega | simp)) .nil))), cwl4, rfl, by omega⟩
 refine sx_exit ?_
 refine q_e (q_e (q_bx (q_n (k2 _ _ ?_))))
 refine sx_seq fun K11 k11 => sx_region ?_
 refine mv rfl rfl (av rfl rfl (wl_nil (q_n (k11 _ _ ?_))))
 refine sx_retc ?_
 refine sx_ret1 Tryz.results48 rfl ?_
 have ek : k = zs.length := by omega
 subst ek
 exact ⟨rfl, cwl4⟩

theorem c_heldSigned {w : World} {n1 : Bool} {v1 : Value} {lv1 uv1 : Nat} {z1 : List Int} {n : Int} (hv1 : Sl w lv1 uv1 v1 (z1)) (h63 : z1.length ≤ 1048576) (hn : 0 ≤ n ∧ n ≤ 4611686018427387904) (hz : z1 = mk n z1.length) :
  Ret Tryz.prog 47 [.agg #[.bool n1, v1], .int .i64 n] w fun v w' => v = .int .i64 (n + ↑(z1).length) ∧ Chg 0 0 w w' := by
 have hv10 := hv1.fit
 refine sx_enter Tryz.func47 rfl Tryz.ntmps47 (nbl rfl) ?_
 refine sx_seq fun K1 k1 => sx_region ?_
 refine sx_box [.bool n1, v1] rfl rfl rfl (fun b2 w3 eb2 sb2 fb2 cb2 => ?_)
 have zw3 := cb2.size
 refine av rfl rfl (wl_nil (q_n (k1 _ _ ?_)))
 refine sx_seq fun K4 k4 => sx_region ?_
 refine sp rfl (px_field rfl xfld28x1) ?_
 refine sp rfl (px_load rfl (fb2.load1 rfl Tryz.isAgg26)) ?_
 refine mv rfl rfl ?_
 have f5 := hv10.ext cb2
 refine sx_call rfl rfl Tryz.call48 (c_heldIntS f5 (by omega) (by omega) (by first | assumption | simp [mk_length])) (fun v6 w6 p6 => ?_)
 obtain ⟨rfl, c6⟩ := p6
 have zw6 := c6.size
 refine av rfl rfl (wl_nil (q_n (k4 _ _ ?_)))
 refine sx_seq fun K7 k7 => ?_
 refine sx_seq fun K8 k8 => sx_region ?_
 refine mv rfl rfl (sp rfl (px_lt rfl rfl) ?_)
 refine wl_nil (q_n (k8 _ _ ?_))
 have h279 : ¬ ((n + ↑(z1).length : Int) < 0) := by omega
 refine sx_condPF rfl h279 ?_
 refine sx_skip ?_
 refine q_n (k7 _ _ ?_)
 refine sx_seq fun K9 k9 => sx_region ?_
 refine mv rfl rfl (av rfl rfl (wl_nil (q_n (k9 _ _ ?_))))
 refine sx_retc ?_
 refine sx_ret1 Tryz.results47 rfl ?_
 exact ⟨rfl, (cb2.t c6)⟩

theorem c_heldMoney {w : World} {c1 : ByteArray} {n1 : Bool} {v1 : Value} {lv1 uv1 : Nat} {z1 : List Int} {n : Int} (hv1 : Sl w lv1 uv1 v1 (z1)) (h63 : z1.length ≤ 1048576) (hn : 0 ≤ n ∧ n ≤ 4611686018427387904) (hz : z1 = mk n z1.length) :
  Ret Tryz.prog 26 [.agg #[.string c1, .bool n1, v1], .int .i64 n] w fun v w' => v = .int .i64 (n + ↑(z1).length) ∧ Chg 0 0 w w' := by
 have hv10 := hv1.fit
 refine sx_enter Tryz.func26 rfl Tryz.ntmps26 (nbl rfl) ?_
 refine sx_seq fun K1 k1 => sx_region ?_
 refine sx_box [.string c1, .bool n1, v1] rfl rfl rfl (fun b2 w3 eb2 sb2 fb2 cb2 => ?_)
 have zw3 := cb2.size
 refine av rfl rfl (wl_nil (q_n (k1 _ _ ?_)))
 refine sx_seq fun K4 k4 => sx_region ?_
 refine sp rfl (px_field rfl xfld48x1) ?_
 refine sp rfl (px_load rfl (fb2.loadA (vs := [.bool n1, v1]) (look_lit rfl) Tryz.isAgg28 Tryz.sizeOf28)) ?_
 refine mv rfl rfl ?_
 have f5 := hv10.ext cb2
 refine sx_call rfl rfl Tryz.call47 (c_heldSigned f5 (by first | omega | (simp only [mk_length]; omega)) (by omega) (by first | assumption | simp [mk_length])) (fun v6 w6 p6 => ?_)
 obtain ⟨rfl, c6⟩ := p6
 have zw6 := c6.size
 refine av rfl rfl (wl_nil (q_n (k4 _ _ ?_)))
 refine sx_seq fun K7 k7 => ?_
 refine sx_seq fun K8 k8 => sx_region ?_
 refine mv rfl rfl (sp rfl (px_lt rfl rfl) ?_)
 refine wl_nil (q_n (k8 _ _ ?_))
 have h463 : ¬ ((n + ↑(z1).length : Int) < 0) := by omega
 refine sx_condPF rfl h463 ?_
 refine sx_skip ?_
 refine q_n (k7 _ _ ?_)
 refine sx_seq fun K9 k9 => sx_region ?_
 refine mv rfl rfl (av rfl rfl (wl_nil (q_n (k9 _ _ ?_))))
 refine sx_retc ?_
 refine sx_ret1 Tryz.results26 rfl ?_
 exact ⟨rfl, (cb2.t c6)⟩

end Go.Proofs.YtcghgfmickgnkaaGreatDoor
