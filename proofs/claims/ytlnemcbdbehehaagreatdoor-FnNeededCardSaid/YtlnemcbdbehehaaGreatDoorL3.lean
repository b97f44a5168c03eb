/- Contracts of functions of the program: what each call returns, and that it changes nothing that was. Conditions: as each says. -/
import Derived.Test.YtlnemcbdbehehaaGreatDoorTy
import Derived.Test.YtlnemcbdbehehaaGreatDoorNatP
import Derived.Test.YtlnemcbdbehehaaGreatDoorSxD
import Derived.Test.YtlnemcbdbehehaaGreatDoorPair
import Derived.Test.YtlnemcbdbehehaaGreatDoorSxW
import Derived.Test.YtlnemcbdbehehaaGreatDoorNatS
import Derived.Test.YtlnemcbdbehehaaGreatDoorSxG
import Derived.Test.YtlnemcbdbehehaaGreatDoorNatT
import Derived.Test.YtlnemcbdbehehaaGreatDoorSxP
import Derived.Test.YtlnemcbdbehehaaGreatDoorRm
import Derived.Test.YtlnemcbdbehehaaGreatDoorL1
import Derived.Test.YtlnemcbdbehehaaGreatDoorL2
set_option linter.unusedVariables false
set_option linter.unusedSimpArgs false
namespace Go.Proofs.YtlnemcbdbehehaaGreatDoor
open Go Go.RowKit
set_option maxRecDepth 100000
theorem c_natAdd {w : World} {va : Value} {lva uva : Nat} {m : Nat} {vb : Value} {lvb uvb : Nat} {n : Nat} (hva : Sl w lva uva va (dg m)) (hvb : Sl w lvb uvb vb (dg n)) (hbm : (dg m).length ≤ 1000) (hbn : (dg n).length ≤ 1000) :
  Ret Tryz.prog 55 [va, vb] w fun v w' => ∃ s, v = s ∧ OwnI w' w.heap.size w'.heap.size s intT (dg (m + n)) ∧ Chg 0 0 w w' := by
 have hva0 := hva.fit
 have hvb0 := hvb.fit
 refine sx_enter Tryz.func55 rfl Tryz.ntmps55 (nbl rfl) ?_
 refine sx_seq fun K1 k1 => sx_region ?_
 refine av rfl rfl (wl_nil (q_n (k1 _ _ ?_)))
 refine sx_seq fun K2 k2 => sx_region ?_
 refine mv rfl rfl (sp rfl (px_len rfl Tryz.underlying28 hva0) ?_)
 refine mv rfl rfl (sp rfl (px_len rfl Tryz.underlying28 hvb0) ?_)
 refine sp rfl (px_max rfl rfl) ?_
 refine sp rfl (px_add rfl rfl (by omega)) ?_
 refine sx_make0 (c := max (dg m).length (dg n).length + 1) rfl xelt28 rfl (look_int rfl (by omega)) (by omega) (by unfold maxLen; omega) (fun s3 ws3 fs3 cs3 ls3 => ?_)
 have zws3 := cs3.size
 refine av rfl rfl (wl_nil (q_n (k2 _ _ ?_)))
 refine sx_seq fun K4 k4 => sx_region ?_
 refine av rfl rfl (wl_nil (q_n (k4 _ _ ?_)))
 refine sx_seq fun K5 k5 => ?_
 refine sx_seq fun K6 k6 => sx_region ?_
 refine av rfl rfl (wl_nil (q_n (k6 _ _ ?_)))
 refine sx_block ?_
 refine sx_loop (fun mm aa w' => ∃ (k : Nat) (s : Value) (os : List Int) (c : Nat), Agr 56 [(0, va), (1, vb), (5, s), (6, .int .i64 ((c : Nat) : Int)), (7, .int .i64 ↑k)] aa ∧ Chg w.heap.size ws3.heap.size ws3 w' ∧ Own w' w.heap.size w'.heap.size s intT os.length 1 (os.map (Value.int .i64)) ∧ (mm = max (dg m).length (dg n).length + 1 - k) ∧ (os.length = k) ∧ (Lm os) ∧ (c ≤ 1) ∧ (k ≤ max (dg m).length (dg n).length) ∧ (vl os + Bs ^ k * c = vl ((dg m).take k) + vl ((dg n).take k))) (_) (fun a ha => ⟨0, s3, [], 0, ha.sub (Sub.c 0 rfl (.c 1 rfl (.c 5 rfl (.c 6 (look_int (t := 6) rfl (by first | omega | simp)) (.c 7 (look_int (t := 7) rfl (by first | omega | simp)) .nil))))), Chg.refl _ _ _, (fs3.mono (by omega) (by omega)), rfl, rfl, Lm.nil, by omega, by omega, by simp [vl]⟩) ?_
 rintro mm aa wl7 ⟨k, s, os, c, hAwl7, cwl7, hs_s, hm, hos, hlm, hc, hk, hv⟩
 refine (show cw Tryz.prog 56 _ _ _ wl7 from ?_) aa hAwl7
 clear hAwl7
 have zwl7 := cwl7.size
 have am := (Lm_dg m).getD k
 have bn := (Lm_dg n).getD k
 refine sx_seq fun K8 k8 => ?_
 refine sx_seq fun K9 k9 => sx_region ?_
 refine mv rfl rfl (mv rfl rfl ?_)
 have f10 := hva0.ext cs3
 have f11 := f10.chg cwl7 (by omega)
 refine sp rfl (px_len rfl Tryz.underlying28 f11) ?_
 refine mv rfl rfl ?_
 have f12 := hvb0.ext cs3
 have f13 := f12.chg cwl7 (by omega)
 refine sp rfl (px_len rfl Tryz.underlying28 f13) ?_
 refine sp rfl (px_max rfl rfl) ?_
 refine sp rfl (px_lt rfl rfl) ?_
 refine wl_nil (q_n (k9 _ _ ?_))
 refine sx_condP rfl (fun h105 => ?_) (fun h105 => ?_)
 ·
  refine sx_skip ?_
  refine q_n (k8 _ _ ?_)
  refine sx_seq fun K14 k14 => ?_
  refine sx_block ?_
  refine sx_seq fun K15 k15 => ?_
  refine sx_seq fun K16 k16 => sx_region ?_
  refine mv rfl rfl (mv rfl rfl (sp rfl (px_len rfl Tryz.underlying28 f11) ?_))
  refine sp rfl (px_lt rfl rfl) ?_
  refine wl_nil (q_n (k16 _ _ ?_))
  refine sx_sub (Sub.c 0 rfl (.c 1 rfl (.c 5 rfl (.c 6 rfl (.c 7 rfl (.c 27 rfl .nil)))))) ?_
  refine sx_condP rfl (fun h106 => ?_) (fun h106 => ?_)
  ·
   refine sx_region ?_
   refine mv rfl rfl (mv rfl rfl (mv rfl rfl (sp rfl (px_index1 (j := k) rfl rfl (by omega) Tryz.underlying28 Tryz.sizeOf3 f11 (by omega)) ?_)))
   refine sp rfl (px_load rfl (f11.load1 (at_int (by omega)) Tryz.isAgg3)) ?_
   refine sp rfl (px_add rfl rfl (by omega)) ?_
   refine av rfl rfl (wl_nil (q_n (k15 _ _ ?_)))
   refine sx_seq fun K17 k17 => ?_
   refine sx_seq fun K18 k18 => sx_region ?_
   refine mv rfl rfl (mv rfl rfl (sp rfl (px_len rfl Tryz.underlying28 f13) ?_))
   refine sp rfl (px_lt rfl rfl) ?_
   refine wl_nil (q_n (k18 _ _ ?_))
   refine sx_sub (Sub.c 0 rfl (.c 1 rfl (.c 5 rfl (.c 6 rfl (.c 7 rfl (.c 37 rfl .nil)))))) ?_
   refine sx_condP rfl (fun h109 => ?_) (fun h109 => ?_)
   ·
    refine sx_region ?_
    refine mv rfl rfl (mv rfl rfl (mv rfl rfl (sp rfl (px_index1 (j := k) rfl rfl (by omega) Tryz.underlying28 Tryz.sizeOf3 f13 (by omega)) ?_)))
    refine sp rfl (px_load rfl (f13.load1 (at_int (by omega)) Tryz.isAgg3)) ?_
    refine sp rfl (px_add rfl rfl (by omega)) ?_
    refine av rfl rfl (wl_nil (q_n (k17 _ _ ?_)))
    refine sx_seq fun K19 k19 => sx_region ?_
    refine mv rfl rfl (mv rfl rfl (sp rfl (px_rem rfl rfl (by omega) (by omega)) ?_))
    refine sx_lit1 rfl xelt28 rfl rfl (fun s20 ws20 ss20 fs20 cs20 => ?_)
    have ns20 := Own.norm (f := (Value.int .i64)) (zs := [((((c : Nat) : Int) + ((dg m).getD k 0)) + ((dg n).getD k 0)) % 1000000000]) fs20
    have zws20 := cs20.size
    have f22 := hs_s.ext cs20
    refine sx_append rfl xelt28 rfl rfl f22 ns20.sv one_int (by omega) (by simp only [List.length_cons, List.length_nil]; omega) (by unfold maxLen; simp only [List.length_cons, List.length_nil]; omega) (fun a21 w21 fw21 cw21 => ?_)
    have nw21 := Own.app (f := (Value.int .i64)) (a := os) (b := [((((c : Nat) : Int) + ((dg m).getD k 0)) + ((dg n).getD k 0)) % 1000000000]) fw21
    have zw21 := cw21.size
    refine av rfl rfl (wl_nil (q_n (k19 _ _ ?_)))
    refine sx_sub (Sub.c 0 rfl (.c 1 rfl (.c 5 rfl (.c 6 rfl (.c 7 rfl .nil))))) ?_
    refine sx_region ?_
    refine mv rfl rfl (sp rfl (px_quo rfl rfl (by omega) (by omega) (by omega)) ?_)
    refine av rfl rfl (wl_nil ?_)
    refine q_bn (q_n (k14 _ _ ?_))
    refine sx_region ?_
    refine mv rfl rfl (sp rfl (px_add rfl rfl (by omega)) ?_)
    refine av rfl rfl (wl_nil ?_)
    have q23 := Chg.step (l := w.heap.size) (h := ws3.heap.size) cwl7 cs20 (by omega)
    have q24 := Chg.step (l := w.heap.size) (h := ws3.heap.size) q23 cw21 (by omega)
    have hs : (((((c : Nat) : Int) + ((dg m).getD k 0)) + ((dg n).getD k 0)) : Int) = ((c : Nat) : Int) + (((dg m).getD k 0).toNat : Nat) + (((dg n).getD k 0).toNat : Nat) := by omega
    have hv2 : vl (os ++ [(((((c : Nat) : Int) + ((dg m).getD k 0)) + ((dg n).getD k 0))) % 1000000000]) + Bs ^ (k + 1) * ((((((c : Nat) : Int) + ((dg m).getD k 0)) + ((dg n).getD k 0))) / 1000000000 : Int).toNat = vl ((dg m).take (k + 1)) + vl ((dg n).take (k + 1)) := by
     rw [vl_concat, hos, vl_take_succ', vl_take_succ', Nat.pow_succ]
     exact add_step hs hv
    have hX := mod_bd (s := ((((c : Nat) : Int) + ((dg m).getD k 0)) + ((dg n).getD k 0))) (by omega)
    exact fun a ha => ⟨_, by omega, (k + 1), a21, (os ++ ([((((c : Nat) : Int) + ((dg m).getD k 0)) + ((dg n).getD k 0)) % 1000000000])), ((((((c : Nat) : Int) + ((dg m).getD k 0)) + ((dg n).getD k 0))) / 1000000000 : Int).toNat, ha.sub (Sub.c 0 rfl (.c 1 rfl (.c 5 rfl (.c 6 (look_int (t := 6) rfl (by first | omega | simp)) (.c 7 (look_int (t := 7) rfl (by first | omega | simp)) .nil))))), q24, (nw21.mono (by omega) (by omega)), rfl, by simp [hos], hlm.append (Lm.single hX.1 hX.2), by omega, by omega, hv2⟩
   have gn := getD_ge (zs := dg n) (k := k) (by omega)
   refine sx_skip ?_
   refine q_n (k17 _ _ ?_)
   refine sx_seq fun K25 k25 => sx_region ?_
   refine mv rfl rfl (mv rfl rfl (sp rfl (px_rem rfl rfl (by omega) (by omega)) ?_))
   refine sx_lit1 rfl xelt28 rfl rfl (fun s26 ws26 ss26 fs26 cs26 => ?_)
   have ns26 := Own.norm (f := (Value.int .i64)) (zs := [(((c : Nat) : Int) + ((dg m).getD k 0)) % 1000000000]) fs26
   have zws26 := cs26.size
   have f28 := hs_s.ext cs26
   refine sx_append rfl xelt28 rfl rfl f28 ns26.sv one_int (by omega) (by simp only [List.length_cons, List.length_nil]; omega) (by unfold maxLen; simp only [List.length_cons, List.length_nil]; omega) (fun a27 w27 fw27 cw27 => ?_)
   have nw27 := Own.app (f := (Value.int .i64)) (a := os) (b := [(((c : Nat) : Int) + ((dg m).getD k 0)) % 1000000000]) fw27
   have zw27 := cw27.size
   refine av rfl rfl (wl_nil (q_n (k25 _ _ ?_)))
   refine sx_region ?_
   refine mv rfl rfl (sp rfl (px_quo rfl rfl (by omega) (by omega) (by omega)) ?_)
   refine av rfl rfl (wl_nil ?_)
   refine q_bn (q_n (k14 _ _ ?_))
   refine sx_region ?_
   refine mv rfl rfl (sp rfl (px_add rfl rfl (by omega)) ?_)
   refine av rfl rfl (wl_nil ?_)
   have q29 := Chg.step (l := w.heap.size) (h := ws3.heap.size) cwl7 cs26 (by omega)
   have q30 := Chg.step (l := w.heap.size) (h := ws3.heap.size) q29 cw27 (by omega)
   have hs : ((((c : Nat) : Int) + ((dg m).getD k 0)) : Int) = ((c : Nat) : Int) + (((dg m).getD k 0).toNat : Nat) + (((dg n).getD k 0).toNat : Nat) := by omega
   have hv2 : vl (os ++ [((((c : Nat) : Int) + ((dg m).getD k 0))) % 1000000000]) + Bs ^ (k + 1) * (((((c : Nat) : Int) + ((dg m).getD k 0))) / 1000000000 : Int).toNat = vl ((dg m).take (k + 1)) + vl ((dg n).take (k + 1)) := by
    rw [vl_concat, hos, vl_take_succ', vl_take_succ', Nat.pow_succ]
    exact add_step hs hv
   have hX := mod_bd (s := (((c : Nat) : Int) + ((dg m).getD k 0))) (by omega)
   exact fun a ha => ⟨_, by omega, (k + 1), a27, (os ++ ([(((c : Nat) : Int) + ((dg m).getD k 0)) % 1000000000])), (((((c : Nat) : Int) + ((dg m).getD k 0))) / 1000000000 : Int).toNat, ha.sub (Sub.c 0 rfl (.c 1 rfl (.c 5 rfl (.c 6 (look_int (t := 6) rfl (by first | omega | simp)) (.c 7 (look_int (t := 7) rfl (by first | omega | simp)) .nil))))), q30, (nw27.mono (by omega) (by omega)), rfl, by simp [hos], hlm.append (Lm.single hX.1 hX.2), by omega, by omega, hv2⟩
  have gm := getD_ge (zs := dg m) (k := k) (by omega)
  refine sx_skip ?_
  refine q_n (k15 _ _ ?_)
  refine sx_seq fun K31 k31 => ?_
  refine sx_seq fun K32 k32 => sx_region ?_
  refine mv rfl rfl (mv rfl rfl (sp rfl (px_len rfl Tryz.underlying28 f13) ?_))
  refine sp rfl (px_lt rfl rfl) ?_
  refine wl_nil (q_n (k32 _ _ ?_))
  refine sx_condP rfl (fun h109 => ?_) (fun h109 => ?_)
  ·
   refine sx_region ?_
   refine mv rfl rfl (mv rfl rfl (mv rfl rfl (sp rfl (px_index1 (j := k) rfl rfl (by omega) Tryz.underlying28 Tryz.sizeOf3 f13 (by omega)) ?_)))
   refine sp rfl (px_load rfl (f13.load1 (at_int (by omega)) Tryz.isAgg3)) ?_
   refine sp rfl (px_add rfl rfl (by omega)) ?_
   refine av rfl rfl (wl_nil (q_n (k31 _ _ ?_)))
   refine sx_sub (Sub.c 0 rfl (.c 1 rfl (.c 5 rfl (.c 6 rfl (.c 7 rfl .nil))))) ?_
   refine sx_seq fun K33 k33 => sx_region ?_
   refine mv rfl rfl (mv rfl rfl (sp rfl (px_rem rfl rfl (by omega) (by omega)) ?_))
   refine sx_lit1 rfl xelt28 rfl rfl (fun s34 ws34 ss34 fs34 cs34 => ?_)
   have ns34 := Own.norm (f := (Value.int .i64)) (zs := [(((c : Nat) : Int) + ((dg n).getD k 0)) % 1000000000]) fs34
   have zws34 := cs34.size
   have f36 := hs_s.ext cs34
   refine sx_append rfl xelt28 rfl rfl f36 ns34.sv one_int (by omega) (by simp only [List.length_cons, List.length_nil]; omega) (by unfold maxLen; simp only [List.length_cons, List.length_nil]; omega) (fun a35 w35 fw35 cw35 => ?_)
   have nw35 := Own.app (f := (Value.int .i64)) (a := os) (b := [(((c : Nat) : Int) + ((dg n).getD k 0)) % 1000000000]) fw35
   have zw35 := cw35.size
   refine av rfl rfl (wl_nil (q_n (k33 _ _ ?_)))
   refine sx_region ?_
   refine mv rfl rfl (sp rfl (px_quo rfl rfl (by omega) (by omega) (by omega)) ?_)
   refine av rfl rfl (wl_nil ?_)
   refine q_bn (q_n (k14 _ _ ?_))
   refine sx_region ?_
   refine mv rfl rfl (sp rfl (px_add rfl rfl (by omega)) ?_)
   refine av rfl rfl (wl_nil ?_)
   have q37 := Chg.step (l := w.heap.size) (h := ws3.heap.size) cwl7 cs34 (by omega)
   have q38 := Chg.step (l := w.heap.size) (h := ws3.heap.size) q37 cw35 (by omega)
   have hs : ((((c : Nat) : Int) + ((dg n).getD k 0)) : Int) = ((c : Nat) : Int) + (((dg m).getD k 0).toNat : Nat) + (((dg n).getD k 0).toNat : Nat) := by omega
   have hv2 : vl (os ++ [((((c : Nat) : Int) + ((dg n).getD k 0))) % 1000000000]) + Bs ^ (k + 1) * (((((c : Nat) : Int) + ((dg n).getD k 0))) / 1000000000 : Int).toNat = vl ((dg m).take (k + 1)) + vl ((dg n).take (k + 1)) := by
    rw [vl_concat, hos, vl_take_succ', vl_take_succ', Nat.pow_succ]
    exact add_step hs hv
   have hX := mod_bd (s := (((c : Nat) : Int) + ((dg n).getD k 0))) (by omega)
   exact fun a ha => ⟨_, by omega, (k + 1), a35, (os ++ ([(((c : Nat) : Int) + ((dg n).getD k 0)) % 1000000000])), (((((c : Nat) : Int) + ((dg n).getD k 0))) / 1000000000 : Int).toNat, ha.sub (Sub.c 0 rfl (.c 1 rfl (.c 5 rfl (.c 6 (look_int (t := 6) rfl (by first | omega | simp)) (.c 7 (look_int (t := 7) rfl (by first | omega | simp)) .nil))))), q38, (nw35.mono (by omega) (by omega)), rfl, by simp [hos], hlm.append (Lm.single hX.1 hX.2), by omega, by omega, hv2⟩
  have gn := getD_ge (zs := dg n) (k := k) (by omega)
  refine sx_skip ?_
  refine q_n (k31 _ _ ?_)
  refine sx_seq fun K39 k39 => sx_region ?_
  refine mv rfl rfl (mv rfl rfl (sp rfl (px_rem rfl rfl (by omega) (by omega)) ?_))
  refine sx_lit1 rfl xelt28 rfl rfl (fun s40 ws40 ss40 fs40 cs40 => ?_)
  have ns40 := Own.norm (f := (Value.int .i64)) (zs := [((c : Nat) : Int) % 1000000000]) fs40
  have zws40 := cs40.size
  have f42 := hs_s.ext cs40
  refine sx_append rfl xelt28 rfl rfl f42 ns40.sv one_int (by omega) (by simp only [List.length_cons, List.length_nil]; omega) (by unfold maxLen; simp only [List.length_cons, List.length_nil]; omega) (fun a41 w41 fw41 cw41 => ?_)
  have nw41 := Own.app (f := (Value.int .i64)) (a := os) (b := [((c : Nat) : Int) % 1000000000]) fw41
  have zw41 := cw41.size
  refine av rfl rfl (wl_nil (q_n (k39 _ _ ?_)))
  refine sx_sub (Sub.c 0 rfl (.c 1 rfl (.c 5 rfl (.c 6 rfl (.c 7 rfl .nil))))) ?_
  refine sx_region ?_
  refine mv rfl rfl (sp rfl (px_quo rfl rfl (by omega) (by omega) (by omega)) ?_)
  refine av rfl rfl (wl_nil ?_)
  refine q_bn (q_n (k14 _ _ ?_))
  refine sx_region ?_
  refine mv rfl rfl (sp rfl (px_add rfl rfl (by omega)) ?_)
  refine av rfl rfl (wl_nil ?_)
  have q43 := Chg.step (l := w.heap.size) (h := ws3.heap.size) cwl7 cs40 (by omega)
  have q44 := Chg.step (l := w.heap.size) (h := ws3.heap.size) q43 cw41 (by omega)
  have hs : (((c : Nat) : Int) : Int) = ((c : Nat) : Int) + (((dg m).getD k 0).toNat : Nat) + (((dg n).getD k 0).toNat : Nat) := by omega
  have hv2 : vl (os ++ [(((c : Nat) : Int)) % 1000000000]) + Bs ^ (k + 1) * ((((c : Nat) : Int)) / 1000000000 : Int).toNat = vl ((dg m).take (k + 1)) + vl ((dg n).take (k + 1)) := by
   rw [vl_concat, hos, vl_take_succ', vl_take_succ', Nat.pow_succ]
   exact add_step hs hv
  have hX := mod_bd (s := ((c : Nat) : Int)) (by omega)
  exact fun a ha => ⟨_, by omega, (k + 1), a41, (os ++ ([((c : Nat) : Int) % 1000000000])), ((((c : Nat) : Int)) / 1000000000 : Int).toNat, ha.sub (Sub.c 0 rfl (.c 1 rfl (.c 5 rfl (.c 6 (look_int (t := 6) rfl (by first | omega | simp)) (.c 7 (look_int (t := 7) rfl (by first | omega | simp)) .nil))))), q44, (nw41.mono (by omega) (by omega)), rfl, by simp [hos], hlm.append (Lm.single hX.1 hX.2), by omega, by omega, hv2⟩
 refine sx_exit ?_
 refine q_e (q_e (q_bx (q_n (k5 _ _ ?_))))
 refine sx_seq fun K45 k45 => ?_
 have ek : k = max (dg m).length (dg n).length := by omega
 have hz : Lm (os ++ [((c : Nat) : Int)]) := hlm.append (Lm.single (by omega) (by omega))
 have hvv : vl (os ++ [((c : Nat) : Int)]) = m + n := by rw [vl_concat, hos, Int.toNat_natCast, hv, vl_take_ge (by omega), vl_take_ge (by omega), vl_dg, vl_dg]
 refine sx_region ?_
 refine mv rfl rfl (mv rfl rfl ?_)
 refine sx_lit1 rfl xelt28 rfl rfl (fun s46 ws46 ss46 fs46 cs46 => ?_)
 have ns46 := Own.norm (f := (Value.int .i64)) (zs := [((c : Nat) : Int)]) fs46
 have zws46 := cs46.size
 have f48 := hs_s.ext cs46
 refine sx_append rfl xelt28 rfl rfl f48 ns46.sv one_int (by omega) (by simp only [List.length_cons, List.length_nil]; omega) (by unfold maxLen; simp only [List.length_cons, List.length_nil]; omega) (fun a47 w47 fw47 cw47 => ?_)
 have nw47 := Own.app (f := (Value.int .i64)) (a := os) (b := [((c : Nat) : Int)]) fw47
 have zw47 := cw47.size
 refine sx_call rfl rfl Tryz.call51 (c_trim nw47 (by assumption) (by first | omega | (simp only [List.length_append, List.length_set, List.length_replicate, List.length_cons, List.length_nil] at *; omega))) (fun v49 w49 p49 => ?_)
 obtain ⟨s49, rfl, os_49, c49⟩ := p49
 have zw49 := c49.size
 refine av rfl rfl (wl_nil (q_n (k45 _ _ ?_)))
 refine sx_sub (Sub.c 4 rfl .nil) ?_
 refine sx_retc ?_
 refine sx_ret1 Tryz.results55 rfl ?_
 have hr := os_49
 rw [hvv] at hr
 have q50 := Chg.step (l := 0) (h := 0) (Chg.zero (l := 0) (h := 0) cs3) cwl7 (by omega)
 have q51 := Chg.step (l := 0) (h := 0) q50 cs46 (by omega)
 have q52 := Chg.step (l := 0) (h := 0) q51 cw47 (by omega)
 have q53 := Chg.step (l := 0) (h := 0) q52 c49 (by omega)
 exact ⟨_, rfl, hr.mono (by omega) (by omega), q53⟩

theorem c_natAdd1 {w : World} {va : Value} {lva uva : Nat} {m : Nat} {vb : Value} {lvb uvb : Nat} {ys : List Int} (hva : Sl w lva uva va (dg m)) (hvb : Sl w lvb uvb vb (ys)) (hbm : (dg m).length ≤ 1000) (hy : ys = [1]) :
  Ret Tryz.prog 55 [va, vb] w fun v w' => ∃ s, v = s ∧ OwnI w' w.heap.size w'.heap.size s intT (dg (m + 1)) ∧ Chg 0 0 w w' := by
 rw [hy, ← dg_1] at hvb; exact c_natAdd hva hvb hbm (by rw [dg_1]; simp)

theorem c_iNatEven {w : World} {va : Value} {lva uva : Nat} {m : Nat} (hva : Sl w lva uva va (dg m)) (hbm : (dg m).length ≤ 50) :
  Ret Tryz.prog 56 [va] w fun v w' => v = .bool (decide (¬ m % 2 = 1)) ∧ Chg 0 0 w w' := by
 have hva0 := hva.fit
 refine sx_enter Tryz.func56 rfl Tryz.ntmps56 (nbl rfl) ?_
 refine sx_seq fun K1 k1 => sx_region ?_
 refine av rfl rfl (wl_nil (q_n (k1 _ _ ?_)))
 refine sx_seq fun K2 k2 => sx_region ?_
 refine mv rfl rfl (sx_call rfl rfl Tryz.call72 (c_iNatOk hva0 (by omega)) (fun v3 w3 p3 => ?_))
 obtain ⟨rfl, c3⟩ := p3
 have zw3 := c3.size
 refine mv rfl rfl ?_
 have h151 : NOk (dg m) := NOk_dg (by omega)
 refine sx_tmpPT (t := 5) rfl h151 ?_
 refine sx_guardT rfl rfl rfl ?_
 refine mv rfl rfl ?_
 refine sx_guardT rfl rfl rfl ?_
 have f4 := hva0.ext c3
 refine sp rfl (px_len rfl Tryz.underlying28 f4) ?_
 refine sx_guardT rfl rfl rfl ?_
 refine sp rfl (px_eq rfl rfl) ?_
 refine sx_guardT rfl rfl rfl ?_
 refine mv rfl rfl ?_
 refine sx_tmpP (t := 9) rfl (fun h151x1 => ?_) (fun h151x1 => ?_)
 ·
  refine sx_guardF rfl rfl rfl rfl rfl rfl ?_
  refine sx_guardF rfl rfl rfl rfl rfl rfl ?_
  refine sx_guardF rfl rfl rfl rfl rfl rfl ?_
  refine sx_guardF rfl rfl rfl rfl rfl rfl ?_
  refine sx_guardF rfl rfl rfl rfl rfl rfl ?_
  refine sx_guardT rfl rfl rfl ?_
  refine sp rfl (px_pick rfl rfl) ?_
  refine sp rfl (px_pick rfl rfl) ?_
  refine av rfl rfl (wl_nil (q_n (k2 _ _ ?_)))
  refine sx_sub (Sub.c 2 rfl .nil) ?_
  refine sx_retc ?_
  refine sx_ret1 Tryz.results56 rfl ?_
  exact ⟨(by have hk := odd_dg (q := m); first | exact bTrue (hk.1 (.inl (by omega))) | exact bIff ⟨fun h => hk.1 (.inr h), fun h => (hk.2 h).resolve_left (by omega)⟩), c3⟩
 refine sx_guardT rfl rfl rfl ?_
 refine mv rfl rfl ?_
 refine sx_guardT rfl rfl rfl ?_
 refine sp rfl (px_index1 (j := 0) rfl rfl (by omega) Tryz.underlying28 Tryz.sizeOf3 f4 (by omega)) ?_
 refine sx_guardT rfl rfl rfl ?_
 refine sp rfl (px_load rfl (f4.load1 (at_int (by omega)) Tryz.isAgg3)) ?_
 refine sx_guardT rfl rfl rfl ?_
 refine sp rfl (px_rem rfl rfl (by have := (Lm_dg m).getD 0; omega) (by omega)) ?_
 refine sx_guardT rfl rfl rfl ?_
 refine sp rfl (px_eq rfl rfl) ?_
 refine sx_guardT rfl rfl rfl ?_
 refine sp rfl (px_pick rfl rfl) ?_
 refine sp rfl (px_pick rfl rfl) ?_
 refine av rfl rfl (wl_nil (q_n (k2 _ _ ?_)))
 refine sx_sub (Sub.c 2 rfl .nil) ?_
 refine sx_retc ?_
 refine sx_ret1 Tryz.results56 rfl ?_
 exact ⟨(by have hk := odd_dg (q := m); first | exact bTrue (hk.1 (.inl (by omega))) | exact bIff ⟨fun h => hk.1 (.inr h), fun h => (hk.2 h).resolve_left (by omega)⟩), c3⟩

theorem c_roundQuotient {w : World} {va : Value} {lva uva : Nat} {x : Int} {vb : Value} {lvb uvb : Nat} {d : Nat} {m : Int} (hva : Sl w lva uva va (dg x.natAbs)) (hvb : Sl w lvb uvb vb (dg d)) (hbx : (dg x.natAbs).length ≤ 49) (hbd : (dg d).length ≤ 390) (hd0 : 0 < d) (hm : 0 ≤ m ∧ m ≤ 6) :
  Ret Tryz.prog 23 [.agg #[.bool (ng x), va], vb, .int .i64 m] w fun v w' => ∃ s, v = .agg #[.bool (ng (rqI x d m)), s] ∧ OwnI w' w.heap.size w'.heap.size s intT (dg (rqI x d m).natAbs) ∧ Chg 0 0 w w' := by
 have hva0 := hva.fit
 have hvb0 := hvb.fit
 have lq := len_div x.natAbs d
 have lr := len_mod (m := x.natAbs) hd0
 have lrr := len_add (x.natAbs % d) (x.natAbs % d)
 refine sx_enter Tryz.func23 rfl Tryz.ntmps23 (nbl rfl) ?_
 refine sx_seq fun K1 k1 => sx_region ?_
 refine sx_box [.bool (ng x), va] rfl rfl rfl (fun b2 w3 eb2 sb2 fb2 cb2 => ?_)
 have zw3 := cb2.size
 refine sx_alloc [.bool false, (.slice none 0 0)] rfl Tryz.zeroValue30 rfl (fun b4 w5 eb4 sb4 fb4 cb4 => ?_)
 have zw5 := cb4.size
 refine wl_nil (q_n (k1 _ _ ?_))
 refine sx_seq fun K6 k6 => sx_region ?_
 refine sp rfl (px_field rfl xfld30x1) ?_
 have f7 := fb2.ext cb4
 refine sp rfl (px_load rfl (f7.load1 rfl Tryz.isAgg28)) ?_
 refine mv rfl rfl ?_
 have f8 := hva0.ext cb2
 have f9 := f8.ext cb4
 have f10 := hvb0.ext cb2
 have f11 := f10.ext cb4
 refine sx_call rfl rfl Tryz.call52 (c_natDiv f9 f11 (by omega) (by omega) (hd0)) (fun v12 w12 p12 => ?_)
 obtain ⟨s12, t12, rfl, os_12, ot_12, c12⟩ := p12
 have zw12 := c12.size
 refine mv rfl rfl (sp rfl (px_ex2 rfl rfl) ?_)
 refine sp rfl (px_ex2 rfl rfl) ?_
 refine av rfl rfl (av rfl rfl (wl_nil (q_n (k6 _ _ ?_))))
 refine sx_seq fun K13 k13 => ?_
 refine sx_seq fun K14 k14 => ?_
 by_cases ph57 : 0 < (dg (x.natAbs % d)).length
 ·
  have f15 := f7.ext c12
  have f16 := fb4.ext c12
  have f17 := f9.ext c12
  refine dx_region (fun w' => Chg 0 0 w12 w') (by kernel_rfl) (Chg.zero (Chg.drew _)) ?_
  have d19 := Chg.drew w12
  have s19 : Chg 0 0 w12 (World.drew w12) := Chg.zero (Chg.drew _)
  have y19 : (World.drew w12).heap.size = w12.heap.size := rfl
  generalize World.drew w12 = w19 at *
  have zw19 := d19.size
  refine dt 0 rfl rfl rfl rfl s19 (fun _ hS => px_move rfl) ?_
  refine dt 1 rfl rfl rfl rfl s19 (fun _ hS => px_len rfl Tryz.underlying28 ((ot_12.sv).chg hS (by omega))) ?_
  refine dt 2 rfl rfl rfl rfl s19 (fun _ hS => px_gt rfl rfl) ?_
  refine dt 3 rfl rfl rfl rfl s19 (fun _ hS => px_move rfl) ?_
  have h57 : (0 : Int) < ↑((dg (x.natAbs % d)).length) := by first | omega | exact ph57
  refine dx_tmpPT (t := 19) rfl h57 ?_
  refine dx_takeG 5 rfl rfl rfl rfl rfl rfl (by kernel_rfl) (by kernel_rfl) (by kernel_rfl) s19 (fun _ hS => px_move rfl) ?_
  refine dx_takeG 8 rfl rfl rfl rfl rfl rfl (by kernel_rfl) (by kernel_rfl) (by kernel_rfl) s19 (fun _ hS => px_field rfl xfld30x0) ?_
  refine dx_takeG 9 rfl rfl rfl rfl rfl rfl (by kernel_rfl) (by kernel_rfl) (by kernel_rfl) s19 (fun _ hS => px_load rfl ((f15.chg hS (by omega)).load1 rfl Tryz.isAgg4)) ?_
  refine dx_takeG 10 rfl rfl rfl rfl rfl rfl (by kernel_rfl) (by kernel_rfl) (by kernel_rfl) s19 (fun _ hS => px_move rfl) ?_
  refine dx_takeG 11 rfl rfl rfl rfl rfl rfl (by kernel_rfl) (by kernel_rfl) (by kernel_rfl) s19 (fun _ hS => px_move rfl) ?_
  refine dx_takeG 13 rfl rfl rfl rfl rfl rfl (by kernel_rfl) (by kernel_rfl) (by kernel_rfl) s19 (fun _ hS => px_move rfl) ?_
  refine dx_takeG 15 rfl rfl rfl rfl rfl rfl (by kernel_rfl) (by kernel_rfl) (by kernel_rfl) s19 (fun _ hS => px_move rfl) ?_
  refine dx_eff 4 rfl (by kernel_rfl) ?_
  refine sx_guardT rfl rfl rfl ?_
  refine sx_call rfl rfl Tryz.call53 (c_roundModes) (fun v20 w20 p20 => ?_)
  obtain ⟨rfl, c20⟩ := p20
  have zw20 := c20.size
  have s21 : Chg 0 0 w12 w20 := (d19.t c20)
  refine wl_nil ?_
  refine dx_next s21 ?_
  refine dx_takeG 6 rfl rfl rfl rfl rfl rfl (by kernel_rfl) (by kernel_rfl) (by kernel_rfl) s21 (fun _ hS => px_indexRm rfl rfl (by omega)) ?_
  refine dx_takeG 7 rfl rfl rfl rfl rfl rfl (by kernel_rfl) (by kernel_rfl) (by kernel_rfl) s21 (fun _ hS => px_fieldv rfl (xfv91x1 _)) ?_
  refine dx_eff 12 rfl (by kernel_rfl) ?_
  refine sx_guardT rfl rfl rfl ?_
  have f23 := (ot_12.ext d19).ext c20
  refine sx_call rfl rfl Tryz.call55 (c_natAdd f23.sv f23.sv (by omega) (by omega)) (fun v24 w24 p24 => ?_)
  obtain ⟨s24, rfl, os_24, c24⟩ := p24
  have zw24 := c24.size
  have s25 : Chg 0 0 w12 w24 := ((d19.t c20).t c24)
  refine wl_nil ?_
  refine dx_next s25 ?_
  refine dx_eff 14 rfl (by kernel_rfl) ?_
  refine sx_guardT rfl rfl rfl ?_
  have f28 := (((f11.ext c12).ext d19).ext c20).ext c24
  refine sx_call rfl rfl Tryz.call54 (c_natCmp os_24.sv f28 (by omega)) (fun v29 w29 p29 => ?_)
  obtain ⟨rfl, c29⟩ := p29
  have zw29 := c29.size
  have s30 : Chg 0 0 w12 w29 := (((d19.t c20).t c24).t c29)
  refine wl_nil ?_
  refine dx_next s30 ?_
  refine dx_eff 16 rfl (by kernel_rfl) ?_
  refine sx_guardT rfl rfl rfl ?_
  have f34 := (((os_12.ext d19).ext c20).ext c24).ext c29
  refine sx_call rfl rfl Tryz.call56 (c_iNatEven f34.sv (by omega)) (fun v35 w35 p35 => ?_)
  obtain ⟨rfl, c35⟩ := p35
  have zw35 := c35.size
  have s36 : Chg 0 0 w12 w35 := ((((d19.t c20).t c24).t c29).t c35)
  refine wl_nil ?_
  refine dx_next s36 ?_
  refine dx_takeG 17 rfl rfl rfl rfl rfl rfl (by kernel_rfl) (by kernel_rfl) (by kernel_rfl) s36 (fun _ hS => px_notP rfl) ?_
  refine dx_eff 18 rfl (by kernel_rfl) ?_
  refine sx_guardT rfl rfl rfl ?_
  refine sx_callV rfl rfl rfl (rm_call (m := m) (by omega)) (c_away (m := m) (by omega)) (fun v37 w37 p37 => ?_)
  obtain ⟨rfl, c37⟩ := p37
  have zw37 := c37.size
  have s38 : Chg 0 0 w12 w37 := (((((d19.t c20).t c24).t c29).t c35).t c37)
  refine wl_nil ?_
  refine dx_next s38 ?_
  refine dt 19 rfl rfl rfl rfl s38 (fun _ hS => px_pick rfl rfl) ?_
  refine dx_done (by kernel_rfl) ?_
  refine q_n (k14 _ _ ?_)
  refine sx_sub (Sub.c 3 rfl (.c 6 rfl (.c 7 rfl (.c 35 rfl .nil)))) ?_
  refine sx_condB rfl (fun h57x1 => ?_) (fun h57x1 => ?_)
  ·
   try rw [cmpL_dg] at h57x1
   try simp only [Decidable.not_not] at h57x1
   have e := rq_up (x := x) (d := d) (m := m) (len_pos.1 (by omega)) h57x1
   refine sx_region ?_
   refine mv rfl rfl ?_
   refine sx_lit1 rfl xelt28 rfl rfl (fun s39 ws39 ss39 fs39 cs39 => ?_)
   have ns39 := Own.norm (f := (Value.int .i64)) (zs := [1]) fs39
   have zws39 := cs39.size
   have f42 := ((f34.ext c35).ext c37).ext cs39
   refine sx_call rfl rfl Tryz.call55 (c_natAdd1 f42.sv ns39.sv (by omega) (rfl)) (fun v43 w43 p43 => ?_)
   obtain ⟨s43, rfl, os_43, c43⟩ := p43
   have zw43 := c43.size
   refine av rfl rfl (wl_nil (q_n (k13 _ _ ?_)))
   refine sx_seq fun K44 k44 => sx_region ?_
   refine sp rfl (px_field rfl xfld30x0) ?_
   have f51 := ((((((f15.ext d19).ext c20).ext c24).ext c29).ext c35).ext c37).ext cs39
   have f52 := f51.ext c43
   refine sp rfl (px_load rfl (f52.load1 rfl Tryz.isAgg4)) ?_
   refine mv rfl rfl (sx_call rfl rfl Tryz.call20 (c_signed os_43.sv (by have h9 := rq_len (x := x) (d := d) (m := m) hbx; rw [e] at h9; omega)) (fun v53 w53 p53 => ?_))
   obtain ⟨rfl, c53⟩ := p53
   have zw53 := c53.size
   have f61 := ((((((f16.ext d19).ext c20).ext c24).ext c29).ext c35).ext c37).ext cs39
   have f63 := (f61.ext c43).ext c53
   have f64 := os_43.ext c53
   refine sx_store (vs := [.bool (nz (ng x) (dg ((x.natAbs / d) + 1))), v43]) rfl rfl f63 rfl Tryz.sizeOf30 (nbl rfl) (one_cons rfl (one_cons f64.one one_nil)) (fun w54 sw54 fw54 cw54 => ?_)
   have zw54 := cw54.size
   have gw54 : Blk w54 b4 [.bool (nz (ng x) (dg ((x.natAbs / d) + 1))), v43] 30 := fw54
   refine wl_nil (q_n (k44 _ _ ?_))
   refine sx_retc ?_
   refine sx_ret1 Tryz.results23 ⟨_, rfl, gw54.loadA (vs := [.bool (nz (ng x) (dg ((x.natAbs / d) + 1))), v43]) (look_lit rfl) Tryz.isAgg30 Tryz.sizeOf30⟩ ?_
   have hh := rqI_sg x d m
   rw [e] at hh
   rw [← hh.1, ← hh.2]
   have q65 := Chg.step (l := 0) (h := 0) (Chg.zero (l := 0) (h := 0) (((((((((((cb2.t cb4).t c12).t d19).t c20).t c24).t c29).t c35).t c37).t cs39).t c43).t c53)) cw54 (by omega)
   have f66 := f64.chg cw54 (by omega)
   exact ⟨_, rfl, (Own.mono f66 (by omega) (by omega)), q65⟩
  try rw [cmpL_dg] at h57x1
  try simp only [Decidable.not_not] at h57x1
  have e := rq_dn (x := x) (d := d) (m := m) (fun hh => by have h9 := hh.2; rw [h57x1] at h9; cases h9)
  refine sx_skip ?_
  refine q_n (k13 _ _ ?_)
  refine sx_seq fun K67 k67 => sx_region ?_
  refine sp rfl (px_field rfl xfld30x0) ?_
  have f73 := (((((f15.ext d19).ext c20).ext c24).ext c29).ext c35).ext c37
  refine sp rfl (px_load rfl (f73.load1 rfl Tryz.isAgg4)) ?_
  refine mv rfl rfl ?_
  have f75 := (f34.ext c35).ext c37
  refine sx_call rfl rfl Tryz.call20 (c_signed f75.sv (by have h9 := rq_len (x := x) (d := d) (m := m) hbx; rw [e] at h9; omega)) (fun v76 w76 p76 => ?_)
  obtain ⟨rfl, c76⟩ := p76
  have zw76 := c76.size
  have f84 := ((((((f16.ext d19).ext c20).ext c24).ext c29).ext c35).ext c37).ext c76
  have f85 := f75.ext c76
  refine sx_store (vs := [.bool (nz (ng x) (dg (x.natAbs / d))), s12]) rfl rfl f84 rfl Tryz.sizeOf30 (nbl rfl) (one_cons rfl (one_cons f85.one one_nil)) (fun w77 sw77 fw77 cw77 => ?_)
  have zw77 := cw77.size
  have gw77 : Blk w77 b4 [.bool (nz (ng x) (dg (x.natAbs / d))), s12] 30 := fw77
  refine wl_nil (q_n (k67 _ _ ?_))
  refine sx_retc ?_
  refine sx_ret1 Tryz.results23 ⟨_, rfl, gw77.loadA (vs := [.bool (nz (ng x) (dg (x.natAbs / d))), s12]) (look_lit rfl) Tryz.isAgg30 Tryz.sizeOf30⟩ ?_
  have hh := rqI_sg x d m
  rw [e] at hh
  rw [← hh.1, ← hh.2]
  have q86 := Chg.step (l := 0) (h := 0) (Chg.zero (l := 0) (h := 0) (((((((((cb2.t cb4).t c12).t d19).t c20).t c24).t c29).t c35).t c37).t c76)) cw77 (by omega)
  have f87 := f85.chg cw77 (by omega)
  exact ⟨_, rfl, (Own.mono f87 (by omega) (by omega)), q86⟩
 have e := rq_dn (x := x) (d := d) (m := m) (fun hh => by have h9 := len_pos.2 hh.1; omega)
 have f90 := f9.ext c12
 have f91 := f11.ext c12
 refine dx_region (fun w' => Chg 0 0 w12 w') (by kernel_rfl) (Chg.zero (Chg.drew _)) ?_
 have d92 := Chg.drew w12
 have s92 : Chg 0 0 w12 (World.drew w12) := Chg.zero (Chg.drew _)
 have y92 : (World.drew w12).heap.size = w12.heap.size := rfl
 generalize World.drew w12 = w92 at *
 have zw92 := d92.size
 refine dt 0 rfl rfl rfl rfl s92 (fun _ hS => px_move rfl) ?_
 refine dt 1 rfl rfl rfl rfl s92 (fun _ hS => px_len rfl Tryz.underlying28 ((ot_12.sv).chg hS (by omega))) ?_
 refine dt 2 rfl rfl rfl rfl s92 (fun _ hS => px_gt rfl rfl) ?_
 refine dt 3 rfl rfl rfl rfl s92 (fun _ hS => px_move rfl) ?_
 have h57 : ¬ ((0 : Int) < ↑((dg (x.natAbs % d)).length)) := by first | omega | exact ph57
 refine dx_tmpPF (t := 19) rfl h57 ?_
 refine dx_skip 4 rfl rfl rfl rfl rfl rfl rfl (by kernel_rfl) (by kernel_rfl) (by kernel_rfl) s92 ?_
 refine dx_skip 5 rfl rfl rfl rfl rfl rfl rfl (by kernel_rfl) (by kernel_rfl) (by kernel_rfl) s92 ?_
 refine dx_skip 6 rfl rfl rfl rfl rfl rfl rfl (by kernel_rfl) (by kernel_rfl) (by kernel_rfl) s92 ?_
 refine dx_skip 7 rfl rfl rfl rfl rfl rfl rfl (by kernel_rfl) (by kernel_rfl) (by kernel_rfl) s92 ?_
 refine dx_skip 8 rfl rfl rfl rfl rfl rfl rfl (by kernel_rfl) (by kernel_rfl) (by kernel_rfl) s92 ?_
 refine dx_skip 9 rfl rfl rfl rfl rfl rfl rfl (by kernel_rfl) (by kernel_rfl) (by kernel_rfl) s92 ?_
 refine dx_skip 10 rfl rfl rfl rfl rfl rfl rfl (by kernel_rfl) (by kernel_rfl) (by kernel_rfl) s92 ?_
 refine dx_skip 11 rfl rfl rfl rfl rfl rfl rfl (by kernel_rfl) (by kernel_rfl) (by kernel_rfl) s92 ?_
 refine dx_skip 12 rfl rfl rfl rfl rfl rfl rfl (by kernel_rfl) (by kernel_rfl) (by kernel_rfl) s92 ?_
 refine dx_skip 13 rfl rfl rfl rfl rfl rfl rfl (by kernel_rfl) (by kernel_rfl) (by kernel_rfl) s92 ?_
 refine dx_skip 14 rfl rfl rfl rfl rfl rfl rfl (by kernel_rfl) (by kernel_rfl) (by kernel_rfl) s92 ?_
 refine dx_skip 15 rfl rfl rfl rfl rfl rfl rfl (by kernel_rfl) (by kernel_rfl) (by kernel_rfl) s92 ?_
 refine dx_skip 16 rfl rfl rfl rfl rfl rfl rfl (by kernel_rfl) (by kernel_rfl) (by kernel_rfl) s92 ?_
 refine dx_skip 17 rfl rfl rfl rfl rfl rfl rfl (by kernel_rfl) (by kernel_rfl) (by kernel_rfl) s92 ?_
 refine dx_skip 18 rfl rfl rfl rfl rfl rfl rfl (by kernel_rfl) (by kernel_rfl) (by kernel_rfl) s92 ?_
 refine dt 19 rfl rfl rfl rfl s92 (fun _ hS => px_pick rfl rfl) ?_
 refine dx_done (by kernel_rfl) ?_
 refine q_n (k14 _ _ ?_)
 refine sx_sub (Sub.c 3 rfl (.c 6 rfl (.c 7 rfl (.c 35 rfl .nil)))) ?_
 refine sx_condF rfl ?_
 refine sx_skip ?_
 refine q_n (k13 _ _ ?_)
 refine sx_seq fun K93 k93 => sx_region ?_
 refine sp rfl (px_field rfl xfld30x0) ?_
 have f94 := (f7.ext c12).ext d92
 refine sp rfl (px_load rfl (f94.load1 rfl Tryz.isAgg4)) ?_
 refine mv rfl rfl ?_
 have f95 := os_12.ext d92
 refine sx_call rfl rfl Tryz.call20 (c_signed f95.sv (by have h9 := rq_len (x := x) (d := d) (m := m) hbx; rw [e] at h9; omega)) (fun v96 w96 p96 => ?_)
 obtain ⟨rfl, c96⟩ := p96
 have zw96 := c96.size
 have f99 := ((fb4.ext c12).ext d92).ext c96
 have f100 := f95.ext c96
 refine sx_store (vs := [.bool (nz (ng x) (dg (x.natAbs / d))), s12]) rfl rfl f99 rfl Tryz.sizeOf30 (nbl rfl) (one_cons rfl (one_cons f100.one one_nil)) (fun w97 sw97 fw97 cw97 => ?_)
 have zw97 := cw97.size
 have gw97 : Blk w97 b4 [.bool (nz (ng x) (dg (x.natAbs / d))), s12] 30 := fw97
 refine wl_nil (q_n (k93 _ _ ?_))
 refine sx_retc ?_
 refine sx_ret1 Tryz.results23 ⟨_, rfl, gw97.loadA (vs := [.bool (nz (ng x) (dg (x.natAbs / d))), s12]) (look_lit rfl) Tryz.isAgg30 Tryz.sizeOf30⟩ ?_
 have hh := rqI_sg x d m
 rw [e] at hh
 rw [← hh.1, ← hh.2]
 have q101 := Chg.step (l := 0) (h := 0) (Chg.zero (l := 0) (h := 0) ((((cb2.t cb4).t c12).t d92).t c96)) cw97 (by omega)
 have f102 := f100.chg cw97 (by omega)
 exact ⟨_, rfl, (Own.mono f102 (by omega) (by omega)), q101⟩

theorem c_moneyOf {w : World} {c : ByteArray} {va : Value} {lva uva : Nat} {x : Int} (hG0 : Glob w) (hva : OwnI w lva uva va intT (dg x.natAbs)) (hbx : (dg x.natAbs).length ≤ 1000) (hu : uva ≤ w.heap.size) :
  Ret Tryz.prog 22 [.string c, .agg #[.bool (ng x), va]] w fun v w' => ∃ s, v = .tuple #[.agg #[.string ((mR c x).1), .bool ((mR c x).2.1), s], .bool ((mR c x).2.2.2)] ∧ OwnI w' (lva) (uva) s intT ((mR c x).2.2.1) ∧ Chg 0 0 w w' := by
 refine sx_enter Tryz.func22 rfl Tryz.ntmps22 (nbl rfl) ?_
 refine sx_seq fun K1 k1 => sx_region ?_
 refine sx_box [.bool (ng x), va] rfl rfl rfl (fun b2 w3 eb2 sb2 fb2 cb2 => ?_)
 have zw3 := cb2.size
 refine sx_alloc [.string (⟨#[]⟩), .bool false, (.slice none 0 0)] rfl Tryz.zeroValue32 rfl (fun b4 w5 eb4 sb4 fb4 cb4 => ?_)
 have zw5 := cb4.size
 refine av rfl rfl (wl_nil (q_n (k1 _ _ ?_)))
 refine sx_seq fun K6 k6 => ?_
 refine sx_seq fun K7 k7 => sx_region ?_
 refine mv rfl rfl ?_
 have f8 := fb2.ext cb4
 refine sp rfl (px_load rfl (f8.loadA (vs := [.bool (ng x), va]) (look_lit rfl) Tryz.isAgg30 Tryz.sizeOf30)) ?_
 refine sp rfl (px_build rfl (xbld32x0x1 rfl _)) ?_
 refine sx_alloc [.string (⟨#[]⟩), .bool false, (.slice none 0 0)] rfl Tryz.zeroValue32 rfl (fun b9 w10 eb9 sb9 fb9 cb9 => ?_)
 have zw10 := cb9.size
 have f12 := hva.ext cb2
 have f13 := f12.ext cb4
 have f14 := f13.ext cb9
 refine sx_store (vs := [.string c, .bool (ng x), va]) rfl rfl fb9 rfl Tryz.sizeOf32 (nbl rfl) (one_cons rfl (one_cons rfl (one_cons f14.one one_nil))) (fun w11 sw11 fw11 cw11 => ?_)
 have zw11 := cw11.size
 have gw11 : Blk w11 b9 [.string c, .bool (ng x), va] 32 := fw11
 refine wl_nil (q_n (k7 _ _ ?_))
 refine sx_seq fun K15 k15 => sx_region ?_
 refine sp rfl (px_load rfl (gw11.loadA (vs := [.string c, .bool (ng x), va]) (look_lit rfl) Tryz.isAgg32 Tryz.sizeOf32)) ?_
 have f16 := hG0.ext cb2
 have f17 := f16.ext cb4
 have f18 := f17.ext cb9
 have f19 := f18.chg cw11 (by omega)
 have f20 := f14.chg cw11 (by omega)
 refine sx_call rfl rfl Tryz.call18 (c_iMoneyOk f19 f20.sv (by omega)) (fun v21 w21 p21 => ?_)
 obtain ⟨rfl, c21⟩ := p21
 have zw21 := c21.size
 refine wl_nil (q_n (k15 _ _ ?_))
 refine sx_condP rfl (fun h19 => ?_) (fun h19 => ?_)
 ·
  refine sx_seq fun K22 k22 => sx_region ?_
  have f23 := gw11.ext c21
  refine sp rfl (px_load rfl (f23.loadA (vs := [.string c, .bool (ng x), va]) (look_lit rfl) Tryz.isAgg32 Tryz.sizeOf32)) ?_
  have f25 := fb4.ext cb9
  have f26 := f25.chg cw11 (by omega)
  have f27 := f26.ext c21
  have f28 := f20.ext c21
  refine sx_store (vs := [.string c, .bool (ng x), va]) rfl rfl f27 rfl Tryz.sizeOf32 (nbl rfl) (one_cons rfl (one_cons rfl (one_cons f28.one one_nil))) (fun w24 sw24 fw24 cw24 => ?_)
  have zw24 := cw24.size
  have gw24 : Blk w24 b4 [.string c, .bool (ng x), va] 32 := fw24
  refine av rfl rfl (wl_nil (q_n (k22 _ _ ?_)))
  refine sx_retc ?_
  refine q_r (sx_ret2 Tryz.results22 ⟨_, rfl, gw24.loadA (vs := [.string c, .bool (ng x), va]) (look_lit rfl) Tryz.isAgg32 Tryz.sizeOf32⟩ rfl ?_)
  rw [mR_ok (by first | exact h19 | exact Decidable.not_not.1 h19)]
  have q29 := Chg.step (l := 0) (h := 0) (Chg.zero (l := 0) (h := 0) ((cb2.t cb4).t cb9)) cw11 (by omega)
  have q30 := Chg.step (l := 0) (h := 0) q29 c21 (by omega)
  have q31 := Chg.step (l := 0) (h := 0) q30 cw24 (by omega)
  have f32 := f28.chg cw24 (by omega)
  exact ⟨_, rfl, (Own.mono f32 (by omega) (by omega)), q31⟩
 refine sx_skip ?_
 refine q_n (k6 _ _ ?_)
 refine sx_seq fun K33 k33 => sx_region ?_
 refine sp rfl (px_build rfl (xbld32x  _)) ?_
 have f35 := fb4.ext cb9
 have f36 := f35.chg cw11 (by omega)
 have f37 := f36.ext c21
 refine sx_store (vs := [.string (⟨#[]⟩), .bool false, (.slice none 0 0)]) rfl rfl f37 rfl Tryz.sizeOf32 (nbl rfl) (o3 rfl rfl rfl) (fun w34 sw34 fw34 cw34 => ?_)
 have zw34 := cw34.size
 have gw34 : Blk w34 b4 [.string (⟨#[]⟩), .bool false, (.slice none 0 0)] 32 := fw34
 refine av rfl rfl (wl_nil (q_n (k33 _ _ ?_)))
 refine sx_retc ?_
 refine sx_ret2 Tryz.results22 ⟨_, rfl, gw34.loadA (vs := [.string (⟨#[]⟩), .bool false, (.slice none 0 0)]) (look_lit rfl) Tryz.isAgg32 Tryz.sizeOf32⟩ rfl ?_
 rw [mR_no (by first | exact h19 | assumption)]
 have q38 := Chg.step (l := 0) (h := 0) (Chg.zero (l := 0) (h := 0) ((cb2.t cb4).t cb9)) cw11 (by omega)
 have q39 := Chg.step (l := 0) (h := 0) q38 c21 (by omega)
 have q40 := Chg.step (l := 0) (h := 0) q39 cw34 (by omega)
 exact ⟨_, rfl, Own.nil _ _ _ _ _, q40⟩

theorem c_iNeeded {w : World} {pv : ByteArray} {vt : Value} {lvt uvt : Nat} {ts : List Rt} {vvt : List Value} {c1 : ByteArray} {n1 : Bool} {v1 : Value} {lv1 uv1 : Nat} {z1 : List Int} {fo : ByteArray} (hG0 : Glob w) (hvt : RtS w lvt uvt vt ts vvt) (hv1 : Sl w lv1 uv1 v1 (z1)) (h63 : ts.length ≤ 4611686018427387904) (hz : ∀ i, i < ts.length → (ts.getD i rt0).2.2.2.1.length ≤ 4611686018427387904) (h64 : z1.length ≤ 4611686018427387904) :
  Ret Tryz.prog 6 [.agg #[.string pv, vt], .agg #[.string c1, .bool n1, v1], .string fo] w fun v w' => ∃ s, v = .tuple #[.agg #[.string ((need pv ts c1 n1 z1 fo).1), .bool ((need pv ts c1 n1 z1 fo).2.1), s], .bool ((need pv ts c1 n1 z1 fo).2.2.2)] ∧ OwnI w' w.heap.size w'.heap.size s intT ((need pv ts c1 n1 z1 fo).2.2.1) ∧ ((need pv ts c1 n1 z1 fo).2.2.1.length ≤ 4) ∧ Chg 0 0 w w' := by
 have hvt0 := hvt.fit
 have hv10 := hv1.fit
 refine sx_enter Tryz.func6 rfl Tryz.ntmps6 (nbl rfl) ?_
 refine sx_seq fun K1 k1 => sx_region ?_
 refine sx_box [.string pv, vt] rfl rfl rfl (fun b2 w3 eb2 sb2 fb2 cb2 => ?_)
 have zw3 := cb2.size
 refine sx_box [.string c1, .bool n1, v1] rfl rfl rfl (fun b4 w5 eb4 sb4 fb4 cb4 => ?_)
 have zw5 := cb4.size
 refine sx_alloc [.string (⟨#[]⟩), .bool false, (.slice none 0 0)] rfl Tryz.zeroValue32 rfl (fun b6 w7 eb6 sb6 fb6 cb6 => ?_)
 have zw7 := cb6.size
 refine av rfl rfl (wl_nil (q_n (k1 _ _ ?_)))
 refine sx_seq fun K8 k8 => ?_
 refine sx_seq fun K9 k9 => sx_region ?_
 have f10 := fb4.ext cb6
 refine sp rfl (px_load rfl (f10.loadA (vs := [.string c1, .bool n1, v1]) (look_lit rfl) Tryz.isAgg32 Tryz.sizeOf32)) ?_
 have f11 := hG0.ext cb2
 have f12 := f11.ext cb4
 have f13 := f12.ext cb6
 have f14 := hv10.ext cb2
 have f15 := f14.ext cb4
 have f16 := f15.ext cb6
 refine sx_call rfl rfl Tryz.call18 (c_iMoneyOk f13 f16 (by omega)) (fun v17 w17 p17 => ?_)
 obtain ⟨rfl, c17⟩ := p17
 have zw17 := c17.size
 refine sp rfl (px_notP rfl) ?_
 refine wl_nil (q_n (k9 _ _ ?_))
 refine sx_condP rfl (fun h96 => ?_) (fun h96 => ?_)
 ·
  refine sx_seq fun K18 k18 => sx_region ?_
  refine sp rfl (px_build rfl (xbld32x  _)) ?_
  have f20 := fb6.ext c17
  refine sx_store (vs := [.string (⟨#[]⟩), .bool false, (.slice none 0 0)]) rfl rfl f20 rfl Tryz.sizeOf32 (nbl rfl) (o3 rfl rfl rfl) (fun w19 sw19 fw19 cw19 => ?_)
  have zw19 := cw19.size
  have gw19 : Blk w19 b6 [.string (⟨#[]⟩), .bool false, (.slice none 0 0)] 32 := fw19
  refine av rfl rfl (wl_nil (q_n (k18 _ _ ?_)))
  refine sx_retc ?_
  refine q_r (sx_ret2 Tryz.results6 ⟨_, rfl, gw19.loadA (vs := [.string (⟨#[]⟩), .bool false, (.slice none 0 0)]) (look_lit rfl) Tryz.isAgg32 Tryz.sizeOf32⟩ rfl ?_)
  rw [need_no (fun hh => h96 hh.1)]
  have q21 := Chg.step (l := 0) (h := 0) (Chg.zero (l := 0) (h := 0) (((cb2.t cb4).t cb6).t c17)) cw19 (by omega)
  exact ⟨_, rfl, Own.nil _ _ _ _ _, by simp [noM], q21⟩
 have hM := Decidable.not_not.1 h96
 obtain ⟨x1, rfl, rfl, hx1⟩ := hM.int
 refine sx_skip ?_
 refine q_n (k8 _ _ ?_)
 refine sx_seq fun K22 k22 => sx_region ?_
 have f23 := fb2.ext cb4
 have f24 := f23.ext cb6
 have f25 := f24.ext c17
 refine sp rfl (px_load rfl (f25.loadA (vs := [.string pv, vt]) (look_lit rfl) Tryz.isAgg25 Tryz.sizeOf25)) ?_
 refine mv rfl rfl (sp rfl (px_field rfl xfld32x0) ?_)
 have f26 := f10.ext c17
 refine sp rfl (px_load rfl (f26.load1 rfl Tryz.isAgg9)) ?_
 have f27 := f13.ext c17
 have f28 := hvt0.ext cb2
 have f29 := f28.ext cb4
 have f30 := f29.ext cb6
 have f31 := f30.ext c17
 refine sx_call rfl rfl Tryz.call19 (c_iUnitRate f27 f31 (by omega) (by first | assumption | exact fun i hi => Nat.le_trans (hzz i hi) (by omega))) (fun v32 w32 p32 => ?_)
 obtain ⟨s32, t32, ls32, us32, lt32, ut32, rfl, os_32, ot_32, hd32, hl32, c32⟩ := p32
 have zw32 := c32.size
 refine mv rfl rfl (sp rfl (px_ex2 rfl rfl) ?_)
 refine sp rfl (px_ex2 rfl rfl) ?_
 refine sx_alloc [.bool false, (.slice none 0 0), (.slice none 0 0)] rfl Tryz.zeroValue38 rfl (fun b33 w34 eb33 sb33 fb33 cb33 => ?_)
 have zw34 := cb33.size
 have f36 := ot_32.ext cb33
 have f37 := os_32.ext cb33
 refine sx_store (vs := [.bool ((uRt pv ts fo c1).1), s32, t32]) rfl rfl fb33 rfl Tryz.sizeOf38 (nbl rfl) (one_cons rfl (one_cons f37.one (one_cons f36.one one_nil))) (fun w35 sw35 fw35 cw35 => ?_)
 have zw35 := cw35.size
 have gw35 : Blk w35 b33 [.bool ((uRt pv ts fo c1).1), s32, t32] 38 := fw35
 refine av rfl rfl (wl_nil (q_n (k22 _ _ ?_)))
 refine sx_sub (Sub.c 2 rfl (.c 4 rfl (.c 6 rfl (.c 7 rfl (.c 8 rfl (.c 9 rfl .nil)))))) ?_
 refine sx_seq fun K38 k38 => ?_
 refine sx_seq fun K39 k39 => sx_region ?_
 refine mv rfl rfl (sp rfl (px_not rfl) ?_)
 refine wl_nil (q_n (k39 _ _ ?_))
 refine sx_condB rfl (fun h100 => ?_) (fun h100 => ?_)
 ·
  refine sx_seq fun K40 k40 => sx_region ?_
  refine sp rfl (px_build rfl (xbld32x  _)) ?_
  have f44 := ((fb6.ext c17).ext c32).ext cb33
  have f45 := f44.chg cw35 (by omega)
  refine sx_store (vs := [.string (⟨#[]⟩), .bool false, (.slice none 0 0)]) rfl rfl f45 rfl Tryz.sizeOf32 (nbl rfl) (o3 rfl rfl rfl) (fun w41 sw41 fw41 cw41 => ?_)
  have zw41 := cw41.size
  have gw41 : Blk w41 b6 [.string (⟨#[]⟩), .bool false, (.slice none 0 0)] 32 := fw41
  refine av rfl rfl (wl_nil (q_n (k40 _ _ ?_)))
  refine sx_retc ?_
  refine q_r (sx_ret2 Tryz.results6 ⟨_, rfl, gw41.loadA (vs := [.string (⟨#[]⟩), .bool false, (.slice none 0 0)]) (look_lit rfl) Tryz.isAgg32 Tryz.sizeOf32⟩ rfl ?_)
  rw [need_no (fun hh => bcl hh.2 h100)]
  have q46 := Chg.step (l := 0) (h := 0) (Chg.zero (l := 0) (h := 0) (((((cb2.t cb4).t cb6).t c17).t c32).t cb33)) cw35 (by omega)
  have q47 := Chg.step (l := 0) (h := 0) q46 cw41 (by omega)
  exact ⟨_, rfl, Own.nil _ _ _ _ _, by simp [noM], q47⟩
 have hok := bnot_f h100
 obtain ⟨y1, e1, hpe, hR1, hy1, ly1, le1⟩ := PosL_uRt hok
 have hr1 : (uRt pv ts fo c1).1 = ng y1 := by rw [hpe]
 have hr2 : (uRt pv ts fo c1).2.1 = dg y1.natAbs := by rw [hpe]
 have hr3 : (uRt pv ts fo c1).2.2.1 = dg e1 := by rw [hpe]
 have lm1 := len_mul x1.natAbs e1
 have nm1 : (x1 * (e1 : Int)).natAbs = x1.natAbs * e1 := by rw [Int.natAbs_mul, Int.natAbs_natCast]
 have lm2 : (dg (x1 * (e1 : Int)).natAbs).length ≤ 14 := by rw [nm1]; omega
 have lr9 : (dg (rqI (x1 * (e1 : Int)) y1.natAbs 3).natAbs).length ≤ 15 := by unfold rqI; rw [sgI_abs]; exact rq_len (k := 14) lm2
 have hyp : 0 < y1.natAbs := by omega
 have f48 := f37.chg cw35 (by omega)
 have f49 := f48
 rw [hr2] at f49
 have f50 := f36.chg cw35 (by omega)
 have f51 := f50
 rw [hr3] at f51
 have f52 := gw35
 rw [hr1] at f52
 refine sx_skip ?_
 refine q_n (k38 _ _ ?_)
 refine sx_seq fun K53 k53 => ?_
 refine sx_cut k53 (fun fr w' => ∃ (gb54x0 : Nat) (gs54x1 : Value) (gl54x1 : Nat) (gu54x1 : Nat), fr = [(2, .string fo), (6, .pointer (some ⟨b6, 0, none⟩)), (7, .bool false), (8, .pointer (some ⟨b33, 0, none⟩)), (10, .pointer (some ⟨gb54x0, 0, none⟩))] ∧ Chg 0 0 w35 w' ∧ (Blk w' gb54x0 [.bool (ng (x1 * (e1 : Int))), gs54x1] 30) ∧ (Own w' gl54x1 gu54x1 gs54x1 intT ((dg (x1 * (e1 : Int)).natAbs).length) 1 ((dg (x1 * (e1 : Int)).natAbs).map (Value.int .i64))) ∧ (w35.heap.size ≤ gb54x0 ∧ gb54x0 + 1 ≤ w'.heap.size) ∧ (w35.heap.size ≤ gl54x1 ∧ gu54x1 ≤ w'.heap.size) ∧ (gu54x1 ≤ gb54x0 ∨ gb54x0 + 1 ≤ gl54x1)) (fun kc54 => ?_) ?_
 ·
  have f56 := (f27.ext c32).ext cb33
  have f57 := f56.chg cw35 (by omega)
  have f59 := (f25.ext c32).ext cb33
  have f60 := f59.chg cw35 (by omega)
  have f62 := (f26.ext c32).ext cb33
  have f63 := f62.chg cw35 (by omega)
  have f66 := ((fb6.ext c17).ext c32).ext cb33
  have f67 := f66.chg cw35 (by omega)
  have f69 := (f31.ext c32).ext cb33
  have f70 := f69.chg cw35 (by omega)
  have f73 := ((f16.ext c17).ext c32).ext cb33
  have f74 := f73.chg cw35 (by omega)
  refine dx_region (fun w' => Chg 0 0 w35 w') (by kernel_rfl) (Chg.zero (Chg.drew _)) ?_
  have d75 := Chg.drew w35
  have s75 : Chg 0 0 w35 (World.drew w35) := Chg.zero (Chg.drew _)
  have y75 : (World.drew w35).heap.size = w35.heap.size := rfl
  generalize World.drew w35 = w75 at *
  have zw75 := d75.size
  refine dt 0 rfl rfl rfl rfl s75 (fun _ hS => px_field rfl xfld32x1) ?_
  refine dt 1 rfl rfl rfl rfl s75 (fun _ hS => px_field rfl xfld30x0) ?_
  refine dt 2 rfl rfl rfl rfl s75 (fun _ hS => px_load rfl ((f63.chg hS (by omega)).load1 rfl Tryz.isAgg4)) ?_
  refine dt 3 rfl rfl rfl rfl s75 (fun _ hS => px_field rfl xfld32x1) ?_
  refine dt 4 rfl rfl rfl rfl s75 (fun _ hS => px_field rfl xfld30x1) ?_
  refine dt 5 rfl rfl rfl rfl s75 (fun _ hS => px_load rfl ((f63.chg hS (by omega)).load1 rfl Tryz.isAgg28)) ?_
  refine dt 6 rfl rfl rfl rfl s75 (fun _ hS => px_field rfl xfld38x1) ?_
  refine dt 7 rfl rfl rfl rfl s75 (fun _ hS => px_load rfl ((f52.chg hS (by omega)).load1 rfl Tryz.isAgg28)) ?_
  refine dx_eff2 8 10 rfl rfl (by kernel_rfl) ?_ ?_
  ·
   have f76 := f74.ext d75
   have f77 := f51.ext d75
   refine sx_call rfl rfl Tryz.call21 (c_natMul f76 f77.sv (by omega) (by omega)) (fun v78 w78 p78 => ?_)
   obtain ⟨s78, rfl, os_78, c78⟩ := p78
   have zw78 := c78.size
   have s79 : Chg 0 0 w35 w78 := (d75.t c78)
   refine wl_nil ?_
   refine dx_next s79 ?_
   refine dx_eff2 9 10 rfl rfl (by kernel_rfl) ?_ ?_
   ·
    refine sx_call rfl rfl Tryz.call20 (c_signed os_78.sv (by omega)) (fun v80 w80 p80 => ?_)
    obtain ⟨rfl, c80⟩ := p80
    have zw80 := c80.size
    refine sx_let (t := 35) rfl (show Value.agg #[.bool (nz (ng x1) (dg (x1.natAbs * e1))), v78] = Value.agg #[.bool (ng (x1 * (e1 : Int))), v78] from by rw [(mul_nat_sg x1 e1).1]) ?_
    have f81 := os_78.ext c80
    have f82 := f81
    rw [(mul_nat_sg x1 e1).2] at f82
    have s83 : Chg 0 0 w35 w80 := ((d75.t c78).t c80)
    refine wl_nil ?_
    refine dx_next s83 ?_
    refine dx_eff 10 rfl (by kernel_rfl) ?_
    refine sx_alloc [.bool false, (.slice none 0 0)] rfl Tryz.zeroValue30 rfl (fun b84 w85 eb84 sb84 fb84 cb84 => ?_)
    have zw85 := cb84.size
    have s86 : Chg 0 0 w35 w85 := (((d75.t c78).t c80).t cb84)
    refine wl_nil ?_
    refine dx_next s86 ?_
    refine dx_eff 11 rfl (by kernel_rfl) ?_
    have f88 := f82.ext cb84
    refine sx_store (vs := [.bool (ng (x1 * (e1 : Int))), v78]) rfl rfl fb84 rfl Tryz.sizeOf30 (nbl rfl) (one_cons rfl (one_cons f88.one one_nil)) (fun w87 sw87 fw87 cw87 => ?_)
    have zw87 := cw87.size
    have gw87 : Blk w87 b84 [.bool (ng (x1 * (e1 : Int))), v78] 30 := fw87
    have q90 := Chg.step (l := 0) (h := 0) (Chg.zero (l := 0) (h := 0) (((d75.t c78).t c80).t cb84)) cw87 (by omega)
    have s89 : Chg 0 0 w35 w87 := q90
    refine wl_nil ?_
    refine dx_next s89 ?_
    refine dx_done (by kernel_rfl) ?_
    have f91 := f88.chg cw87 (by omega)
    have q92 := Chg.step (l := 0) (h := 0) (Chg.zero (l := 0) (h := 0) (((d75.t c78).t c80).t cb84)) cw87 (by omega)
    exact q_n (kw_sub (Sub.c 2 rfl (.c 6 rfl (.c 7 rfl (.c 8 rfl (.c 10 rfl .nil))))) (kc54 _ _ ⟨b84, v78, w75.heap.size, w78.heap.size, rfl, q92, gw87, f91, by omega, by omega, by omega⟩))
   refine sx_alloc [.bool false, (.slice none 0 0)] rfl Tryz.zeroValue30 rfl (fun b93 w94 eb93 sb93 fb93 cb93 => ?_)
   have zw94 := cb93.size
   have s95 : Chg 0 0 w35 w94 := ((d75.t c78).t cb93)
   refine wl_nil ?_
   refine dx_next s95 ?_
   refine dx_eff 9 rfl (by kernel_rfl) ?_
   have f96 := os_78.ext cb93
   refine sx_call rfl rfl Tryz.call20 (c_signed f96.sv (by omega)) (fun v97 w97 p97 => ?_)
   obtain ⟨rfl, c97⟩ := p97
   have zw97 := c97.size
   refine sx_let (t := 35) rfl (show Value.agg #[.bool (nz (ng x1) (dg (x1.natAbs * e1))), v78] = Value.agg #[.bool (ng (x1 * (e1 : Int))), v78] from by rw [(mul_nat_sg x1 e1).1]) ?_
   have f98 := f96.ext c97
   have f99 := f98
   rw [(mul_nat_sg x1 e1).2] at f99
   have s100 : Chg 0 0 w35 w97 := (((d75.t c78).t cb93).t c97)
   refine wl_nil ?_
   refine dx_next s100 ?_
   refine dx_eff 11 rfl (by kernel_rfl) ?_
   have f102 := fb93.ext c97
   refine sx_store (vs := [.bool (ng (x1 * (e1 : Int))), v78]) rfl rfl f102 rfl Tryz.sizeOf30 (nbl rfl) (one_cons rfl (one_cons f99.one one_nil)) (fun w101 sw101 fw101 cw101 => ?_)
   have zw101 := cw101.size
   have gw101 : Blk w101 b93 [.bool (ng (x1 * (e1 : Int))), v78] 30 := fw101
   have q104 := Chg.step (l := 0) (h := 0) (Chg.zero (l := 0) (h := 0) (((d75.t c78).t cb93).t c97)) cw101 (by omega)
   have s103 : Chg 0 0 w35 w101 := q104
   refine wl_nil ?_
   refine dx_next s103 ?_
   refine dx_done (by kernel_rfl) ?_
   have f105 := f99.chg cw101 (by omega)
   have q106 := Chg.step (l := 0) (h := 0) (Chg.zero (l := 0) (h := 0) (((d75.t c78).t cb93).t c97)) cw101 (by omega)
   exact q_n (kw_sub (Sub.c 2 rfl (.c 6 rfl (.c 7 rfl (.c 8 rfl (.c 10 rfl .nil))))) (kc54 _ _ ⟨b93, v78, w75.heap.size, w78.heap.size, rfl, q106, gw101, f105, by omega, by omega, by omega⟩))
  refine sx_alloc [.bool false, (.slice none 0 0)] rfl Tryz.zeroValue30 rfl (fun b107 w108 eb107 sb107 fb107 cb107 => ?_)
  have zw108 := cb107.size
  have s109 : Chg 0 0 w35 w108 := (d75.t cb107)
  refine wl_nil ?_
  refine dx_next s109 ?_
  refine dx_eff 8 rfl (by kernel_rfl) ?_
  have f111 := (f74.ext d75).ext cb107
  have f113 := (f51.ext d75).ext cb107
  refine sx_call rfl rfl Tryz.call21 (c_natMul f111 f113.sv (by omega) (by omega)) (fun v114 w114 p114 => ?_)
  obtain ⟨s114, rfl, os_114, c114⟩ := p114
  have zw114 := c114.size
  have s115 : Chg 0 0 w35 w114 := ((d75.t cb107).t c114)
  refine wl_nil ?_
  refine dx_next s115 ?_
  refine dx_eff 9 rfl (by kernel_rfl) ?_
  refine sx_call rfl rfl Tryz.call20 (c_signed os_114.sv (by omega)) (fun v116 w116 p116 => ?_)
  obtain ⟨rfl, c116⟩ := p116
  have zw116 := c116.size
  refine sx_let (t := 35) rfl (show Value.agg #[.bool (nz (ng x1) (dg (x1.natAbs * e1))), v114] = Value.agg #[.bool (ng (x1 * (e1 : Int))), v114] from by rw [(mul_nat_sg x1 e1).1]) ?_
  have f117 := os_114.ext c116
  have f118 := f117
  rw [(mul_nat_sg x1 e1).2] at f118
  have s119 : Chg 0 0 w35 w116 := (((d75.t cb107).t c114).t c116)
  refine wl_nil ?_
  refine dx_next s119 ?_
  refine dx_eff 11 rfl (by kernel_rfl) ?_
  have f122 := (fb107.ext c114).ext c116
  refine sx_store (vs := [.bool (ng (x1 * (e1 : Int))), v114]) rfl rfl f122 rfl Tryz.sizeOf30 (nbl rfl) (one_cons rfl (one_cons f118.one one_nil)) (fun w120 sw120 fw120 cw120 => ?_)
  have zw120 := cw120.size
  have gw120 : Blk w120 b107 [.bool (ng (x1 * (e1 : Int))), v114] 30 := fw120
  have q124 := Chg.step (l := 0) (h := 0) (Chg.zero (l := 0) (h := 0) (((d75.t cb107).t c114).t c116)) cw120 (by omega)
  have s123 : Chg 0 0 w35 w120 := q124
  refine wl_nil ?_
  refine dx_next s123 ?_
  refine dx_done (by kernel_rfl) ?_
  have f125 := f118.chg cw120 (by omega)
  have q126 := Chg.step (l := 0) (h := 0) (Chg.zero (l := 0) (h := 0) (((d75.t cb107).t c114).t c116)) cw120 (by omega)
  exact q_n (kw_sub (Sub.c 2 rfl (.c 6 rfl (.c 7 rfl (.c 8 rfl (.c 10 rfl .nil))))) (kc54 _ _ ⟨b107, v114, w108.heap.size, w114.heap.size, rfl, q126, gw120, f125, by omega, by omega, by omega⟩))
 rintro fr w'54 ⟨gb54x0, gs54x1, gl54x1, gu54x1, rfl, cw'54, xgb54x0, xgs54x1, ygb54x0, ygl54x1, dgl54x1xgb54x0⟩
 have zw'54 := cw'54.size
 refine sx_seq fun K127 k127 => sx_region ?_
 refine mv rfl rfl (sp rfl (px_load rfl (xgb54x0.loadA (vs := [.bool (ng (x1 * (e1 : Int))), gs54x1]) (look_lit rfl) Tryz.isAgg30 Tryz.sizeOf30)) ?_)
 refine sp rfl (px_field rfl xfld38x0) ?_
 refine sp rfl (px_field rfl xfld30x1) ?_
 have f128 := f52.ext cw'54
 refine sp rfl (px_load rfl (f128.load1 rfl Tryz.isAgg28)) ?_
 have f129 := f49.ext cw'54
 refine sx_call rfl rfl Tryz.call23 (c_roundQuotient xgs54x1.sv f129.sv (by omega) (by omega) (hyp) (by omega)) (fun v130 w130 p130 => ?_)
 obtain ⟨s130, rfl, os_130, c130⟩ := p130
 have zw130 := c130.size
 have f132 := (f27.ext c32).ext cb33
 have f133 := f132.chg cw35 (by omega)
 have f134 := f133.ext cw'54
 have f135 := f134.ext c130
 refine sx_call rfl rfl Tryz.call22 (c_moneyOf f135 os_130 (by omega) (by omega)) (fun v136 w136 p136 => ?_)
 obtain ⟨s136, rfl, os_136, c136⟩ := p136
 have zw136 := c136.size
 refine sp rfl (px_ex2 rfl rfl) ?_
 refine sp rfl (px_ex2 rfl rfl) ?_
 have f140 := ((fb6.ext c17).ext c32).ext cb33
 have f141 := f140.chg cw35 (by omega)
 have f142 := f141.ext cw'54
 have f144 := (f142.ext c130).ext c136
 refine sx_store (vs := [.string ((mR fo (rqI (x1 * (e1 : Int)) ((y1).natAbs) (3 : Int))).1), .bool ((mR fo (rqI (x1 * (e1 : Int)) ((y1).natAbs) (3 : Int))).2.1), s136]) rfl rfl f144 rfl Tryz.sizeOf32 (nbl rfl) (one_cons rfl (one_cons rfl (one_cons os_136.one one_nil))) (fun w137 sw137 fw137 cw137 => ?_)
 have zw137 := cw137.size
 have gw137 : Blk w137 b6 [.string ((mR fo (rqI (x1 * (e1 : Int)) ((y1).natAbs) (3 : Int))).1), .bool ((mR fo (rqI (x1 * (e1 : Int)) ((y1).natAbs) (3 : Int))).2.1), s136] 32 := fw137
 refine av rfl rfl (wl_nil (q_n (k127 _ _ ?_)))
 refine sx_retc ?_
 refine sx_ret2 Tryz.results6 ⟨_, rfl, gw137.loadA (vs := [.string ((mR fo (rqI (x1 * (e1 : Int)) ((y1).natAbs) (3 : Int))).1), .bool ((mR fo (rqI (x1 * (e1 : Int)) ((y1).natAbs) (3 : Int))).2.1), s136]) (look_lit rfl) Tryz.isAgg32 Tryz.sizeOf32⟩ rfl ?_
 rw [need_ok hM hok hr2 hr3]
 have q145 := Chg.step (l := 0) (h := 0) (Chg.zero (l := 0) (h := 0) (((((cb2.t cb4).t cb6).t c17).t c32).t cb33)) cw35 (by omega)
 have q146 := Chg.step (l := 0) (h := 0) q145 ((cw'54.t c130).t c136) (by omega)
 have q147 := Chg.step (l := 0) (h := 0) q146 cw137 (by omega)
 have f148 := os_136.chg cw137 (by omega)
 exact ⟨_, rfl, (Own.mono f148 (by omega) (by omega)), mR_len, q147⟩

theorem c_intCopy {w : World} {n1 : Bool} {v1 : Value} {lv1 uv1 : Nat} {z1 : List Int} (hv1 : Sl w lv1 uv1 v1 (z1)) (bz1 : z1.length ≤ 1048576) :
  Ret Tryz.prog 35 [.agg #[.bool n1, v1]] w fun v w' => ∃ s, v = .agg #[.bool (n1), s] ∧ OwnI w' w.heap.size w'.heap.size s intT (z1) ∧ Chg 0 0 w w' := by
 have hv10 := hv1.fit
 refine sx_enter Tryz.func35 rfl Tryz.ntmps35 (nbl rfl) ?_
 refine sx_seq fun K1 k1 => sx_region ?_
 refine sx_box [.bool n1, v1] rfl rfl rfl (fun b2 w3 eb2 sb2 fb2 cb2 => ?_)
 have zw3 := cb2.size
 refine sx_alloc [.bool false, (.slice none 0 0)] rfl Tryz.zeroValue30 rfl (fun b4 w5 eb4 sb4 fb4 cb4 => ?_)
 have zw5 := cb4.size
 refine wl_nil (q_n (k1 _ _ ?_))
 refine sx_seq fun K6 k6 => ?_
 have f7 := fb2.ext cb4
 have f8 := hv10.ext cb2
 have f9 := f8.ext cb4
 refine dx_region (fun w' => Chg b4 (b4 + 1) w5 w') (by kernel_rfl) (Chg.zero (Chg.drew _)) ?_
 have d10 := Chg.drew w5
 have s10 : Chg b4 (b4 + 1) w5 (World.drew w5) := Chg.zero (Chg.drew _)
 have y10 : (World.drew w5).heap.size = w5.heap.size := rfl
 generalize World.drew w5 = w10 at *
 have zw10 := d10.size
 refine dt 0 rfl rfl rfl rfl s10 (fun _ hS => px_field rfl xfld30x0) ?_
 refine dt 1 rfl rfl rfl rfl s10 (fun _ hS => px_load rfl ((f7.chg hS (by omega)).load1 rfl Tryz.isAgg4)) ?_
 refine dt 2 rfl rfl rfl rfl s10 (fun _ hS => px_field rfl xfld30x1) ?_
 refine dt 3 rfl rfl rfl rfl s10 (fun _ hS => px_load rfl ((f7.chg hS (by omega)).load1 rfl Tryz.isAgg28)) ?_
 refine dx_eff 4 rfl (by kernel_rfl) ?_
 have f11 := f9.ext d10
 refine sx_call rfl rfl Tryz.call63 (c_natCopy f11 (by omega)) (fun v12 w12 p12 => ?_)
 obtain ⟨s12, rfl, os_12, c12⟩ := p12
 have zw12 := c12.size
 have s13 : Chg b4 (b4 + 1) w5 w12 := (Chg.zero (l := b4) (h := (b4 + 1)) (d10.t c12))
 refine wl_nil ?_
 refine dx_next s13 ?_
 refine dt 5 rfl rfl rfl rfl s13 (fun _ hS => px_build rfl (xbld30x0x1 rfl os_12.one _)) ?_
 refine dx_eff 6 rfl (by kernel_rfl) ?_
 have f16 := (fb4.ext d10).ext c12
 refine sx_store (vs := [.bool n1, v12]) rfl rfl f16 rfl Tryz.sizeOf30 (nbl rfl) (one_cons rfl (one_cons os_12.one one_nil)) (fun w14 sw14 fw14 cw14 => ?_)
 have zw14 := cw14.size
 have gw14 : Blk w14 b4 [.bool n1, v12] 30 := fw14
 have q18 := Chg.step (l := b4) (h := (b4 + 1)) (Chg.zero (l := b4) (h := (b4 + 1)) (d10.t c12)) cw14 (by omega)
 have s17 : Chg b4 (b4 + 1) w5 w14 := q18
 refine wl_nil ?_
 refine dx_next s17 ?_
 refine dx_done (by kernel_rfl) ?_
 refine q_n (k6 _ _ ?_)
 refine sx_retc ?_
 refine sx_ret1 Tryz.results35 ⟨_, rfl, gw14.loadA (vs := [.bool n1, v12]) (look_lit rfl) Tryz.isAgg30 Tryz.sizeOf30⟩ ?_
 have q19 := Chg.step (l := 0) (h := 0) (Chg.zero (l := 0) (h := 0) (((cb2.t cb4).t d10).t c12)) cw14 (by omega)
 have f20 := os_12.chg cw14 (by omega)
 exact ⟨_, rfl, (Own.mono f20 (by omega) (by omega)), q19⟩

theorem c_iMoneyRat {w : World} {c1 : ByteArray} {n1 : Bool} {v1 : Value} {lv1 uv1 : Nat} {z1 : List Int} (hG0 : Glob w) (hv1 : Sl w lv1 uv1 v1 (z1)) (h63 : z1.length ≤ 4611686018427387904) :
  Ret Tryz.prog 12 [.agg #[.string c1, .bool n1, v1]] w fun v w' => ∃ s t ls us lt ut, v = .agg #[.bool ((mRat c1 n1 z1).1), s, t] ∧ OwnI w' (ls) (us) s intT ((mRat c1 n1 z1).2.1) ∧ OwnI w' (lt) (ut) t intT ((mRat c1 n1 z1).2.2.1) ∧ (w.heap.size ≤ ls ∧ us ≤ w'.heap.size ∧ w.heap.size ≤ lt ∧ ut ≤ w'.heap.size ∧ (us ≤ lt ∨ ut ≤ ls)) ∧ ((mRat c1 n1 z1).2.1.length ≤ 18 ∧ (mRat c1 n1 z1).2.2.1.length ≤ 18) ∧ Chg 0 0 w w' := by
 have hv10 := hv1.fit
 refine sx_enter Tryz.func12 rfl Tryz.ntmps12 (nbl rfl) ?_
 refine sx_seq fun K1 k1 => sx_region ?_
 refine sx_box [.string c1, .bool n1, v1] rfl rfl rfl (fun b2 w3 eb2 sb2 fb2 cb2 => ?_)
 have zw3 := cb2.size
 refine sx_alloc [.bool false, (.slice none 0 0), (.slice none 0 0)] rfl Tryz.zeroValue38 rfl (fun b4 w5 eb4 sb4 fb4 cb4 => ?_)
 have zw5 := cb4.size
 refine wl_nil (q_n (k1 _ _ ?_))
 refine sx_seq fun K6 k6 => ?_
 refine sx_seq fun K7 k7 => sx_region ?_
 have f8 := fb2.ext cb4
 refine sp rfl (px_load rfl (f8.loadA (vs := [.string c1, .bool n1, v1]) (look_lit rfl) Tryz.isAgg32 Tryz.sizeOf32)) ?_
 have f9 := hG0.ext cb2
 have f10 := f9.ext cb4
 have f11 := hv10.ext cb2
 have f12 := f11.ext cb4
 refine sx_call rfl rfl Tryz.call18 (c_iMoneyOk f10 f12 (by omega)) (fun v13 w13 p13 => ?_)
 obtain ⟨rfl, c13⟩ := p13
 have zw13 := c13.size
 refine sp rfl (px_notP rfl) ?_
 refine wl_nil (q_n (k7 _ _ ?_))
 refine sx_condP rfl (fun h98 => ?_) (fun h98 => ?_)
 ·
  refine sx_seq fun K14 k14 => sx_region ?_
  refine sp rfl (px_build rfl (xbld38x  _)) ?_
  have f16 := fb4.ext c13
  refine sx_store (vs := [.bool false, (.slice none 0 0), (.slice none 0 0)]) rfl rfl f16 rfl Tryz.sizeOf38 (nbl rfl) (o3 rfl rfl rfl) (fun w15 sw15 fw15 cw15 => ?_)
  have zw15 := cw15.size
  have gw15 : Blk w15 b4 [.bool false, (.slice none 0 0), (.slice none 0 0)] 38 := fw15
  refine wl_nil (q_n (k14 _ _ ?_))
  refine sx_retc ?_
  refine q_r (sx_ret1 Tryz.results12 ⟨_, rfl, gw15.loadA (vs := [.bool false, (.slice none 0 0), (.slice none 0 0)]) (look_lit rfl) Tryz.isAgg38 Tryz.sizeOf38⟩ ?_)
  rw [mRat_no h98]
  have q17 := Chg.step (l := 0) (h := 0) (Chg.zero (l := 0) (h := 0) ((cb2.t cb4).t c13)) cw15 (by omega)
  exact ⟨_, _, w.heap.size, w.heap.size, w.heap.size, w.heap.size, rfl, Own.nil _ _ _ _ _, Own.nil _ _ _ _ _, by omega, ⟨by simp [noR], by simp [noR]⟩, q17⟩
 have hM := Decidable.not_not.1 h98
 have hM4 := hM.2.2
 refine sx_skip ?_
 refine q_n (k6 _ _ ?_)
 refine sx_seq fun K18 k18 => sx_region ?_
 refine sp rfl (px_field rfl xfld32x1) ?_
 have f19 := f8.ext c13
 refine sp rfl (px_load rfl (f19.loadA (vs := [.bool n1, v1]) (look_lit rfl) Tryz.isAgg30 Tryz.sizeOf30)) ?_
 have f20 := f12.ext c13
 refine sx_call rfl rfl Tryz.call35 (c_intCopy f20 (by omega)) (fun v21 w21 p21 => ?_)
 obtain ⟨s21, rfl, os_21, c21⟩ := p21
 have zw21 := c21.size
 refine sx_lit1 rfl xelt28 rfl rfl (fun s22 ws22 ss22 fs22 cs22 => ?_)
 have ns22 := Own.norm (f := (Value.int .i64)) (zs := [1]) fs22
 have zws22 := cs22.size
 refine sp rfl (px_build rfl (xbld38x0x1 ns22.one _)) ?_
 have f26 := ((fb4.ext c13).ext c21).ext cs22
 have f27 := os_21.ext cs22
 refine sx_store (vs := [.bool n1, s21, s22]) rfl rfl f26 rfl Tryz.sizeOf38 (nbl rfl) (one_cons rfl (one_cons f27.one (one_cons ns22.one one_nil))) (fun w23 sw23 fw23 cw23 => ?_)
 have zw23 := cw23.size
 have gw23 : Blk w23 b4 [.bool n1, s21, s22] 38 := fw23
 refine wl_nil (q_n (k18 _ _ ?_))
 refine sx_retc ?_
 refine sx_ret1 Tryz.results12 ⟨_, rfl, gw23.loadA (vs := [.bool n1, s21, s22]) (look_lit rfl) Tryz.isAgg38 Tryz.sizeOf38⟩ ?_
 have hrl := mRat_len (c := c1) (n := n1) (z := z1)
 rw [mRat_ok hM] at hrl ⊢
 have q28 := Chg.step (l := 0) (h := 0) (Chg.zero (l := 0) (h := 0) ((((cb2.t cb4).t c13).t c21).t cs22)) cw23 (by omega)
 have f29 := f27.chg cw23 (by omega)
 have f30 := ns22.chg cw23 (by omega)
 exact ⟨_, _, _, _, _, _, rfl, f29, f30, by omega, hrl, q28⟩

theorem c_iExact {w : World} {pv : ByteArray} {vt : Value} {lvt uvt : Nat} {ts : List Rt} {vvt : List Value} {c1 : ByteArray} {n1 : Bool} {v1 : Value} {lv1 uv1 : Nat} {z1 : List Int} {to : ByteArray} (hG0 : Glob w) (hvt : RtS w lvt uvt vt ts vvt) (hv1 : Sl w lv1 uv1 v1 (z1)) (h63 : ts.length ≤ 4611686018427387904) (hz : ∀ i, i < ts.length → (ts.getD i rt0).2.2.2.1.length ≤ 4611686018427387904) (h64 : z1.length ≤ 4611686018427387904) :
  Ret Tryz.prog 8 [.agg #[.string pv, vt], .agg #[.string c1, .bool n1, v1], .string to] w fun v w' => ∃ s t ls us lt ut, v = .tuple #[.agg #[.bool ((exct pv ts c1 n1 z1 to).1), s, t], .bool ((exct pv ts c1 n1 z1 to).2.2.2)] ∧ OwnI w' (ls) (us) s intT ((exct pv ts c1 n1 z1 to).2.1) ∧ OwnI w' (lt) (ut) t intT ((exct pv ts c1 n1 z1 to).2.2.1) ∧ (w.heap.size ≤ ls ∧ us ≤ w'.heap.size ∧ w.heap.size ≤ lt ∧ ut ≤ w'.heap.size ∧ (us ≤ lt ∨ ut ≤ ls)) ∧ ((exct pv ts c1 n1 z1 to).2.1.length ≤ 18 ∧ (exct pv ts c1 n1 z1 to).2.2.1.length ≤ 18) ∧ Chg 0 0 w w' := by
 have hvt0 := hvt.fit
 have hv10 := hv1.fit
 refine sx_enter Tryz.func8 rfl Tryz.ntmps8 (nbl rfl) ?_
 refine sx_seq fun K1 k1 => sx_region ?_
 refine sx_box [.string pv, vt] rfl rfl rfl (fun b2 w3 eb2 sb2 fb2 cb2 => ?_)
 have zw3 := cb2.size
 refine sx_box [.string c1, .bool n1, v1] rfl rfl rfl (fun b4 w5 eb4 sb4 fb4 cb4 => ?_)
 have zw5 := cb4.size
 refine sx_alloc [.bool false, (.slice none 0 0), (.slice none 0 0)] rfl Tryz.zeroValue38 rfl (fun b6 w7 eb6 sb6 fb6 cb6 => ?_)
 have zw7 := cb6.size
 refine av rfl rfl (wl_nil (q_n (k1 _ _ ?_)))
 refine sx_seq fun K8 k8 => ?_
 refine sx_seq fun K9 k9 => sx_region ?_
 have f10 := fb4.ext cb6
 refine sp rfl (px_load rfl (f10.loadA (vs := [.string c1, .bool n1, v1]) (look_lit rfl) Tryz.isAgg32 Tryz.sizeOf32)) ?_
 have f11 := hG0.ext cb2
 have f12 := f11.ext cb4
 have f13 := f12.ext cb6
 have f14 := hv10.ext cb2
 have f15 := f14.ext cb4
 have f16 := f15.ext cb6
 refine sx_call rfl rfl Tryz.call18 (c_iMoneyOk f13 f16 (by omega)) (fun v17 w17 p17 => ?_)
 obtain ⟨rfl, c17⟩ := p17
 have zw17 := c17.size
 refine sp rfl (px_notP rfl) ?_
 refine wl_nil (q_n (k9 _ _ ?_))
 refine sx_condP rfl (fun h40 => ?_) (fun h40 => ?_)
 ·
  refine sx_seq fun K18 k18 => sx_region ?_
  refine sp rfl (px_build rfl (xbld38x  _)) ?_
  have f20 := fb6.ext c17
  refine sx_store (vs := [.bool false, (.slice none 0 0), (.slice none 0 0)]) rfl rfl f20 rfl Tryz.sizeOf38 (nbl rfl) (o3 rfl rfl rfl) (fun w19 sw19 fw19 cw19 => ?_)
  have zw19 := cw19.size
  have gw19 : Blk w19 b6 [.bool false, (.slice none 0 0), (.slice none 0 0)] 38 := fw19
  refine av rfl rfl (wl_nil (q_n (k18 _ _ ?_)))
  refine sx_retc ?_
  refine q_r (sx_ret2 Tryz.results8 ⟨_, rfl, gw19.loadA (vs := [.bool false, (.slice none 0 0), (.slice none 0 0)]) (look_lit rfl) Tryz.isAgg38 Tryz.sizeOf38⟩ rfl ?_)
  rw [exct_no (fun hh => h40 hh.1)]
  have q21 := Chg.step (l := 0) (h := 0) (Chg.zero (l := 0) (h := 0) (((cb2.t cb4).t cb6).t c17)) cw19 (by omega)
  exact ⟨_, _, w.heap.size, w.heap.size, w.heap.size, w.heap.size, rfl, Own.nil _ _ _ _ _, Own.nil _ _ _ _ _, by omega, ⟨by simp [noR], by simp [noR]⟩, q21⟩
 refine sx_skip ?_
 refine q_n (k8 _ _ ?_)
 refine sx_seq fun K22 k22 => sx_region ?_
 have f23 := fb2.ext cb4
 have f24 := f23.ext cb6
 have f25 := f24.ext c17
 refine sp rfl (px_load rfl (f25.loadA (vs := [.string pv, vt]) (look_lit rfl) Tryz.isAgg25 Tryz.sizeOf25)) ?_
 refine sp rfl (px_field rfl xfld32x0) ?_
 have f26 := f10.ext c17
 refine sp rfl (px_load rfl (f26.load1 rfl Tryz.isAgg9)) ?_
 refine mv rfl rfl ?_
 have f27 := f13.ext c17
 have f28 := hvt0.ext cb2
 have f29 := f28.ext cb4
 have f30 := f29.ext cb6
 have f31 := f30.ext c17
 refine sx_call rfl rfl Tryz.call19 (c_iUnitRate f27 f31 (by omega) (by first | assumption | exact fun i hi => Nat.le_trans (hzz i hi) (by omega))) (fun v32 w32 p32 => ?_)
 obtain ⟨s32, t32, ls32, us32, lt32, ut32, rfl, os_32, ot_32, hd32, hl32, c32⟩ := p32
 have zw32 := c32.size
 refine mv rfl rfl (sp rfl (px_ex2 rfl rfl) ?_)
 refine sp rfl (px_ex2 rfl rfl) ?_
 refine sx_alloc [.bool false, (.slice none 0 0), (.slice none 0 0)] rfl Tryz.zeroValue38 rfl (fun b33 w34 eb33 sb33 fb33 cb33 => ?_)
 have zw34 := cb33.size
 have f36 := ot_32.ext cb33
 have f37 := os_32.ext cb33
 refine sx_store (vs := [.bool ((uRt pv ts c1 to).1), s32, t32]) rfl rfl fb33 rfl Tryz.sizeOf38 (nbl rfl) (one_cons rfl (one_cons f37.one (one_cons f36.one one_nil))) (fun w35 sw35 fw35 cw35 => ?_)
 have zw35 := cw35.size
 have gw35 : Blk w35 b33 [.bool ((uRt pv ts c1 to).1), s32, t32] 38 := fw35
 refine av rfl rfl (wl_nil (q_n (k22 _ _ ?_)))
 refine sx_sub (Sub.c 4 rfl (.c 6 rfl (.c 7 rfl (.c 8 rfl (.c 9 rfl .nil))))) ?_
 refine sx_seq fun K38 k38 => ?_
 refine sx_seq fun K39 k39 => sx_region ?_
 refine mv rfl rfl (sp rfl (px_not rfl) ?_)
 refine wl_nil (q_n (k39 _ _ ?_))
 refine sx_condB rfl (fun h44 => ?_) (fun h44 => ?_)
 ·
  refine sx_seq fun K40 k40 => sx_region ?_
  refine sp rfl (px_build rfl (xbld38x  _)) ?_
  have f44 := ((fb6.ext c17).ext c32).ext cb33
  have f45 := f44.chg cw35 (by omega)
  refine sx_store (vs := [.bool false, (.slice none 0 0), (.slice none 0 0)]) rfl rfl f45 rfl Tryz.sizeOf38 (nbl rfl) (o3 rfl rfl rfl) (fun w41 sw41 fw41 cw41 => ?_)
  have zw41 := cw41.size
  have gw41 : Blk w41 b6 [.bool false, (.slice none 0 0), (.slice none 0 0)] 38 := fw41
  refine av rfl rfl (wl_nil (q_n (k40 _ _ ?_)))
  refine sx_retc ?_
  refine q_r (sx_ret2 Tryz.results8 ⟨_, rfl, gw41.loadA (vs := [.bool false, (.slice none 0 0), (.slice none 0 0)]) (look_lit rfl) Tryz.isAgg38 Tryz.sizeOf38⟩ rfl ?_)
  rw [exct_no (fun hh => bcl hh.2 h44)]
  have q46 := Chg.step (l := 0) (h := 0) (Chg.zero (l := 0) (h := 0) (((((cb2.t cb4).t cb6).t c17).t c32).t cb33)) cw35 (by omega)
  have q47 := Chg.step (l := 0) (h := 0) q46 cw41 (by omega)
  exact ⟨_, _, w.heap.size, w.heap.size, w.heap.size, w.heap.size, rfl, Own.nil _ _ _ _ _, Own.nil _ _ _ _ _, by omega, ⟨by simp [noR], by simp [noR]⟩, q47⟩
 refine sx_skip ?_
 refine q_n (k38 _ _ ?_)
 refine sx_seq fun K48 k48 => ?_
 have f50 := (f27.ext c32).ext cb33
 have f51 := f50.chg cw35 (by omega)
 have f53 := (f25.ext c32).ext cb33
 have f54 := f53.chg cw35 (by omega)
 have f56 := (f26.ext c32).ext cb33
 have f57 := f56.chg cw35 (by omega)
 have f59 := (f31.ext c32).ext cb33
 have f60 := f59.chg cw35 (by omega)
 have f63 := ((f16.ext c17).ext c32).ext cb33
 have f64 := f63.chg cw35 (by omega)
 have f65 := f37.chg cw35 (by omega)
 have f66 := f36.chg cw35 (by omega)
 refine dx_region (fun w' => Chg b6 (b6 + 1) w35 w') (by kernel_rfl) (Chg.zero (Chg.drew _)) ?_
 have d67 := Chg.drew w35
 have s67 : Chg b6 (b6 + 1) w35 (World.drew w35) := Chg.zero (Chg.drew _)
 have y67 : (World.drew w35).heap.size = w35.heap.size := rfl
 generalize World.drew w35 = w67 at *
 have zw67 := d67.size
 refine dt 0 rfl rfl rfl rfl s67 (fun _ hS => px_load rfl ((f57.chg hS (by omega)).loadA (vs := [.string c1, .bool n1, v1]) (look_lit rfl) Tryz.isAgg32 Tryz.sizeOf32)) ?_
 refine dt 2 rfl rfl rfl rfl s67 (fun _ hS => px_load rfl ((gw35.chg hS (by omega)).loadA (vs := [.bool ((uRt pv ts c1 to).1), s32, t32]) (look_lit rfl) Tryz.isAgg38 Tryz.sizeOf38)) ?_
 refine dx_eff 1 rfl (by kernel_rfl) ?_
 have f68 := f51.ext d67
 have f69 := f64.ext d67
 refine sx_call rfl rfl Tryz.call12 (c_iMoneyRat f68 f69 (by omega)) (fun v70 w70 p70 => ?_)
 obtain ⟨s70, t70, ls70, us70, lt70, ut70, rfl, os_70, ot_70, hd70, hl70, c70⟩ := p70
 have zw70 := c70.size
 have s71 : Chg b6 (b6 + 1) w35 w70 := (Chg.zero (l := b6) (h := (b6 + 1)) (d67.t c70))
 refine wl_nil ?_
 refine dx_next s71 ?_
 refine dx_eff 3 rfl (by kernel_rfl) ?_
 have f73 := (f65.ext d67).ext c70
 have f75 := (f66.ext d67).ext c70
 refine sx_call rfl rfl Tryz.call27 (c_iRatMul os_70.sv ot_70.sv f73.sv f75.sv (by have h8 := mRat_len (c := c1) (n := n1) (z := z1); have h9 := uRt_len (pv := pv) (ts := ts) (a := c1) (b := to); omega)) (fun v76 w76 p76 => ?_)
 obtain ⟨s76, t76, ls76, us76, lt76, ut76, rfl, os_76, ot_76, hd76, hl76, c76⟩ := p76
 have zw76 := c76.size
 have s77 : Chg b6 (b6 + 1) w35 w76 := (Chg.zero (l := b6) (h := (b6 + 1)) ((d67.t c70).t c76))
 refine wl_nil ?_
 refine dx_next s77 ?_
 refine dt 4 rfl rfl rfl rfl s77 (fun _ hS => px_ex2 rfl rfl) ?_
 refine dt 5 rfl rfl rfl rfl s77 (fun _ hS => px_ex2 rfl rfl) ?_
 refine dx_eff 6 rfl (by kernel_rfl) ?_
 have f81 := ((fb6.ext c17).ext c32).ext cb33
 have f82 := f81.chg cw35 (by omega)
 have f85 := ((f82.ext d67).ext c70).ext c76
 refine sx_store (vs := [.bool ((rMul ((mRat c1 n1 z1).1) ((mRat c1 n1 z1).2.1) ((mRat c1 n1 z1).2.2.1) ((uRt pv ts c1 to).1) ((uRt pv ts c1 to).2.1) ((uRt pv ts c1 to).2.2.1)).1), s76, t76]) rfl rfl f85 rfl Tryz.sizeOf38 (nbl rfl) (one_cons rfl (one_cons os_76.one (one_cons ot_76.one one_nil))) (fun w78 sw78 fw78 cw78 => ?_)
 have zw78 := cw78.size
 have gw78 : Blk w78 b6 [.bool ((rMul ((mRat c1 n1 z1).1) ((mRat c1 n1 z1).2.1) ((mRat c1 n1 z1).2.2.1) ((uRt pv ts c1 to).1) ((uRt pv ts c1 to).2.1) ((uRt pv ts c1 to).2.2.1)).1), s76, t76] 38 := fw78
 have q87 := Chg.step (l := b6) (h := (b6 + 1)) (Chg.zero (l := b6) (h := (b6 + 1)) ((d67.t c70).t c76)) cw78 (by omega)
 have s86 : Chg b6 (b6 + 1) w35 w78 := q87
 refine wl_nil ?_
 refine dx_next s86 ?_
 refine dt 7 rfl rfl rfl rfl s86 (fun _ hS => px_assign rfl) ?_
 refine dx_done (by kernel_rfl) ?_
 refine q_n (k48 _ _ ?_)
 refine sx_retc ?_
 refine sx_ret2 Tryz.results8 ⟨_, rfl, gw78.loadA (vs := [.bool ((rMul ((mRat c1 n1 z1).1) ((mRat c1 n1 z1).2.1) ((mRat c1 n1 z1).2.2.1) ((uRt pv ts c1 to).1) ((uRt pv ts c1 to).2.1) ((uRt pv ts c1 to).2.2.1)).1), s76, t76]) (look_lit rfl) Tryz.isAgg38 Tryz.sizeOf38⟩ rfl ?_
 have hrl := exct_len (pv := pv) (ts := ts) (c := c1) (n := n1) (z := z1) (to := to)
 rw [exct_ok (Decidable.not_not.1 h40) (bnot_f h44)] at hrl ⊢
 have q88 := Chg.step (l := 0) (h := 0) (Chg.zero (l := 0) (h := 0) (((((cb2.t cb4).t cb6).t c17).t c32).t cb33)) cw35 (by omega)
 have q89 := Chg.step (l := 0) (h := 0) q88 ((d67.t c70).t c76) (by omega)
 have q90 := Chg.step (l := 0) (h := 0) q89 cw78 (by omega)
 have f91 := os_76.chg cw78 (by omega)
 have f92 := ot_76.chg cw78 (by omega)
 exact ⟨_, _, _, _, _, _, rfl, f91, f92, by omega, hrl, q90⟩

theorem c_iMoneyOf {w : World} {c : ByteArray} {k : Int} (hG0 : Glob w) (bik : -9223372036854775808 ≤ k ∧ k ≤ 9223372036854775807) :
  Ret Tryz.prog 9 [.string c, .int .i64 k] w fun v w' => ∃ s, v = .tuple #[.agg #[.string ((mR c k).1), .bool ((mR c k).2.1), s], .bool ((mR c k).2.2.2)] ∧ OwnI w' w.heap.size w'.heap.size s intT ((mR c k).2.2.1) ∧ ((mR c k).2.2.1.length ≤ 4) ∧ Chg 0 0 w w' := by
 have lk := len_i64 bik
 refine sx_enter Tryz.func9 rfl Tryz.ntmps9 (nbl rfl) ?_
 refine sx_seq fun K1 k1 => sx_region ?_
 refine sx_alloc [.string (⟨#[]⟩), .bool false, (.slice none 0 0)] rfl Tryz.zeroValue32 rfl (fun b2 w3 eb2 sb2 fb2 cb2 => ?_)
 have zw3 := cb2.size
 refine av rfl rfl (wl_nil (q_n (k1 _ _ ?_)))
 refine sx_seq fun K4 k4 => sx_region ?_
 refine mv rfl rfl (mv rfl rfl (sx_call rfl rfl Tryz.call28 (c_iIntOf (by omega)) (fun v5 w5 p5 => ?_)))
 obtain ⟨s5, rfl, os_5, c5⟩ := p5
 have zw5 := c5.size
 have f6 := hG0.ext cb2
 have f7 := f6.ext c5
 refine sx_call rfl rfl Tryz.call22 (c_moneyOf f7 os_5 (by omega) (by omega)) (fun v8 w8 p8 => ?_)
 obtain ⟨s8, rfl, os_8, c8⟩ := p8
 have zw8 := c8.size
 refine sp rfl (px_ex2 rfl rfl) ?_
 refine sp rfl (px_ex2 rfl rfl) ?_
 have f11 := (fb2.ext c5).ext c8
 refine sx_store (vs := [.string ((mR c (k)).1), .bool ((mR c (k)).2.1), s8]) rfl rfl f11 rfl Tryz.sizeOf32 (nbl rfl) (one_cons rfl (one_cons rfl (one_cons os_8.one one_nil))) (fun w9 sw9 fw9 cw9 => ?_)
 have zw9 := cw9.size
 have gw9 : Blk w9 b2 [.string ((mR c (k)).1), .bool ((mR c (k)).2.1), s8] 32 := fw9
 refine av rfl rfl (wl_nil (q_n (k4 _ _ ?_)))
 refine sx_retc ?_
 refine sx_ret2 Tryz.results9 ⟨_, rfl, gw9.loadA (vs := [.string ((mR c (k)).1), .bool ((mR c (k)).2.1), s8]) (look_lit rfl) Tryz.isAgg32 Tryz.sizeOf32⟩ rfl ?_
 have q12 := Chg.step (l := 0) (h := 0) (Chg.zero (l := 0) (h := 0) ((cb2.t c5).t c8)) cw9 (by omega)
 have f13 := os_8.chg cw9 (by omega)
 exact ⟨_, rfl, (Own.mono f13 (by omega) (by omega)), mR_len, q12⟩

theorem c_alike {w : World} {c1 : ByteArray} {n1 : Bool} {v1 : Value} {lv1 uv1 : Nat} {z1 : List Int} {c2 : ByteArray} {n2 : Bool} {v2 : Value} {lv2 uv2 : Nat} {z2 : List Int} (hG0 : Glob w) (hv1 : Sl w lv1 uv1 v1 (z1)) (hv2 : Sl w lv2 uv2 v2 (z2)) (h63 : z1.length ≤ 4611686018427387904 ∧ z2.length ≤ 4611686018427387904) :
  Ret Tryz.prog 29 [.agg #[.string c1, .bool n1, v1], .agg #[.string c2, .bool n2, v2]] w fun v w' => v = .bool (decide (Alike c1 n1 z1 c2 n2 z2)) ∧ Chg 0 0 w w' := by
 have hv10 := hv1.fit
 have hv20 := hv2.fit
 refine sx_enter Tryz.func29 rfl Tryz.ntmps29 (nbl rfl) ?_
 refine sx_seq fun K1 k1 => sx_region ?_
 refine sx_box [.string c1, .bool n1, v1] rfl rfl rfl (fun b2 w3 eb2 sb2 fb2 cb2 => ?_)
 have zw3 := cb2.size
 refine sx_box [.string c2, .bool n2, v2] rfl rfl rfl (fun b4 w5 eb4 sb4 fb4 cb4 => ?_)
 have zw5 := cb4.size
 refine av rfl rfl (wl_nil (q_n (k1 _ _ ?_)))
 refine sx_seq fun K6 k6 => sx_region ?_
 have f7 := fb2.ext cb4
 refine sp rfl (px_load rfl (f7.loadA (vs := [.string c1, .bool n1, v1]) (look_lit rfl) Tryz.isAgg32 Tryz.sizeOf32)) ?_
 have f8 := hG0.ext cb2
 have f9 := f8.ext cb4
 have f10 := hv10.ext cb2
 have f11 := f10.ext cb4
 refine sx_call rfl rfl Tryz.call18 (c_iMoneyOk f9 f11 (by omega)) (fun v12 w12 p12 => ?_)
 obtain ⟨rfl, c12⟩ := p12
 have zw12 := c12.size
 refine mv rfl rfl ?_
 refine sx_tmpP (t := 7) rfl (fun h51 => ?_) (fun h51 => ?_)
 ·
  refine sx_guardT rfl rfl rfl ?_
  have f13 := fb4.ext c12
  refine sp rfl (px_load rfl (f13.loadA (vs := [.string c2, .bool n2, v2]) (look_lit rfl) Tryz.isAgg32 Tryz.sizeOf32)) ?_
  refine sx_guardT rfl rfl rfl ?_
  have f14 := f9.ext c12
  have f15 := hv20.ext cb2
  have f16 := f15.ext cb4
  have f17 := f16.ext c12
  refine sx_call rfl rfl Tryz.call18 (c_iMoneyOk f14 f17 (by omega)) (fun v18 w18 p18 => ?_)
  obtain ⟨rfl, c18⟩ := p18
  have zw18 := c18.size
  refine sp rfl (px_pick rfl rfl) ?_
  refine mv rfl rfl ?_
  refine sx_tmpP (t := 11) rfl (fun h51x1 => ?_) (fun h51x1 => ?_)
  ·
   refine sx_guardT rfl rfl rfl ?_
   refine sp rfl (px_field rfl xfld32x0) ?_
   refine sx_guardT rfl rfl rfl ?_
   have f20 := (f7.ext c12).ext c18
   refine sp rfl (px_load rfl (f20.load1 rfl Tryz.isAgg9)) ?_
   refine sx_guardT rfl rfl rfl ?_
   refine sp rfl (px_field rfl xfld32x0) ?_
   refine sx_guardT rfl rfl rfl ?_
   have f21 := f13.ext c18
   refine sp rfl (px_load rfl (f21.load1 rfl Tryz.isAgg9)) ?_
   refine sx_guardT rfl rfl rfl ?_
   refine sp rfl (px_eqS rfl rfl) ?_
   refine sp rfl (px_pick rfl rfl) ?_
   refine av rfl rfl (wl_nil (q_n (k6 _ _ ?_)))
   refine sx_sub (Sub.c 4 rfl .nil) ?_
   refine sx_retc ?_
   refine sx_ret1 Tryz.results29 rfl ?_
   exact ⟨(by first | exact bTrue (by grind [Alike]) | exact bFalse (by grind [Alike]) | exact bIff (by grind [Alike])), (((cb2.t cb4).t c12).t c18)⟩
  refine sx_guardF rfl rfl rfl rfl rfl rfl ?_
  refine sx_guardF rfl rfl rfl rfl rfl rfl ?_
  refine sx_guardF rfl rfl rfl rfl rfl rfl ?_
  refine sx_guardF rfl rfl rfl rfl rfl rfl ?_
  refine sx_guardF rfl rfl rfl rfl rfl rfl ?_
  refine sp rfl (px_pick rfl rfl) ?_
  refine av rfl rfl (wl_nil (q_n (k6 _ _ ?_)))
  refine sx_sub (Sub.c 4 rfl .nil) ?_
  refine sx_retc ?_
  refine sx_ret1 Tryz.results29 rfl ?_
  exact ⟨(by first | exact bTrue (by grind [Alike]) | exact bFalse (by grind [Alike]) | exact bIff (by grind [Alike])), (((cb2.t cb4).t c12).t c18)⟩
 refine sx_guardF rfl rfl rfl rfl rfl rfl ?_
 refine sx_guardF rfl rfl rfl rfl rfl rfl ?_
 refine sp rfl (px_pick rfl rfl) ?_
 refine mv rfl rfl ?_
 refine sx_guardF rfl rfl rfl rfl rfl rfl ?_
 refine sx_guardF rfl rfl rfl rfl rfl rfl ?_
 refine sx_guardF rfl rfl rfl rfl rfl rfl ?_
 refine sx_guardF rfl rfl rfl rfl rfl rfl ?_
 refine sx_guardF rfl rfl rfl rfl rfl rfl ?_
 refine sp rfl (px_pick rfl rfl) ?_
 refine av rfl rfl (wl_nil (q_n (k6 _ _ ?_)))
 refine sx_sub (Sub.c 4 rfl .nil) ?_
 refine sx_retc ?_
 refine sx_ret1 Tryz.results29 rfl ?_
 exact ⟨(by first | exact bTrue (by grind [Alike]) | exact bFalse (by grind [Alike]) | exact bIff (by grind [Alike])), ((cb2.t cb4).t c12)⟩

theorem c_intNeg {w : World} {va : Value} {lva uva : Nat} {x : Int} (hva : Sl w lva uva va (dg x.natAbs)) (hbx : (dg x.natAbs).length ≤ 1000) :
  Ret Tryz.prog 31 [.agg #[.bool (ng x), va]] w fun v w' => ∃ s, v = .agg #[.bool (ng (-x)), s] ∧ OwnI w' w.heap.size w'.heap.size s intT (dg (-x).natAbs) ∧ Chg 0 0 w w' := by
 have hva0 := hva.fit
 refine sx_enter Tryz.func31 rfl Tryz.ntmps31 (nbl rfl) ?_
 refine sx_seq fun K1 k1 => sx_region ?_
 refine sx_box [.bool (ng x), va] rfl rfl rfl (fun b2 w3 eb2 sb2 fb2 cb2 => ?_)
 have zw3 := cb2.size
 refine sx_alloc [.bool false, (.slice none 0 0)] rfl Tryz.zeroValue30 rfl (fun b4 w5 eb4 sb4 fb4 cb4 => ?_)
 have zw5 := cb4.size
 refine wl_nil (q_n (k1 _ _ ?_))
 refine sx_seq fun K6 k6 => ?_
 have f7 := fb2.ext cb4
 have f8 := hva0.ext cb2
 have f9 := f8.ext cb4
 refine dx_region (fun w' => Chg b4 (b4 + 1) w5 w') (by kernel_rfl) (Chg.zero (Chg.drew _)) ?_
 have d10 := Chg.drew w5
 have s10 : Chg b4 (b4 + 1) w5 (World.drew w5) := Chg.zero (Chg.drew _)
 have y10 : (World.drew w5).heap.size = w5.heap.size := rfl
 generalize World.drew w5 = w10 at *
 have zw10 := d10.size
 refine dt 0 rfl rfl rfl rfl s10 (fun _ hS => px_field rfl xfld30x0) ?_
 refine dt 1 rfl rfl rfl rfl s10 (fun _ hS => px_load rfl ((f7.chg hS (by omega)).load1 rfl Tryz.isAgg4)) ?_
 refine dt 2 rfl rfl rfl rfl s10 (fun _ hS => px_not rfl) ?_
 refine dt 3 rfl rfl rfl rfl s10 (fun _ hS => px_field rfl xfld30x1) ?_
 refine dt 4 rfl rfl rfl rfl s10 (fun _ hS => px_load rfl ((f7.chg hS (by omega)).load1 rfl Tryz.isAgg28)) ?_
 refine dx_eff 5 rfl (by kernel_rfl) ?_
 have f11 := f9.ext d10
 refine sx_call rfl rfl Tryz.call63 (c_natCopy f11 (by omega)) (fun v12 w12 p12 => ?_)
 obtain ⟨s12, rfl, os_12, c12⟩ := p12
 have zw12 := c12.size
 have s13 : Chg b4 (b4 + 1) w5 w12 := (Chg.zero (l := b4) (h := (b4 + 1)) (d10.t c12))
 refine wl_nil ?_
 refine dx_next s13 ?_
 refine dx_eff 6 rfl (by kernel_rfl) ?_
 refine sx_call rfl rfl Tryz.call20 (c_signed os_12.sv (by omega)) (fun v14 w14 p14 => ?_)
 obtain ⟨rfl, c14⟩ := p14
 have zw14 := c14.size
 have s15 : Chg b4 (b4 + 1) w5 w14 := (Chg.zero (l := b4) (h := (b4 + 1)) ((d10.t c12).t c14))
 refine wl_nil ?_
 refine dx_next s15 ?_
 refine dx_eff 7 rfl (by kernel_rfl) ?_
 have f19 := ((fb4.ext d10).ext c12).ext c14
 have f20 := os_12.ext c14
 refine sx_store (vs := [.bool (nz (!(ng x)) (dg x.natAbs)), v12]) rfl rfl f19 rfl Tryz.sizeOf30 (nbl rfl) (one_cons rfl (one_cons f20.one one_nil)) (fun w16 sw16 fw16 cw16 => ?_)
 have zw16 := cw16.size
 have gw16 : Blk w16 b4 [.bool (nz (!(ng x)) (dg x.natAbs)), v12] 30 := fw16
 have q22 := Chg.step (l := b4) (h := (b4 + 1)) (Chg.zero (l := b4) (h := (b4 + 1)) ((d10.t c12).t c14)) cw16 (by omega)
 have s21 : Chg b4 (b4 + 1) w5 w16 := q22
 refine wl_nil ?_
 refine dx_next s21 ?_
 refine dx_done (by kernel_rfl) ?_
 refine q_n (k6 _ _ ?_)
 refine sx_retc ?_
 refine sx_ret1 Tryz.results31 ⟨_, rfl, gw16.loadA (vs := [.bool (nz (!(ng x)) (dg x.natAbs)), v12]) (look_lit rfl) Tryz.isAgg30 Tryz.sizeOf30⟩ ?_
 have hh := neg_sg x
 rw [← hh.1, ← hh.2]
 have q23 := Chg.step (l := 0) (h := 0) (Chg.zero (l := 0) (h := 0) ((((cb2.t cb4).t d10).t c12).t c14)) cw16 (by omega)
 have f24 := f20.chg cw16 (by omega)
 exact ⟨_, rfl, (Own.mono f24 (by omega) (by omega)), q23⟩

theorem c_natSub {w : World} {va : Value} {lva uva : Nat} {m : Nat} {vb : Value} {lvb uvb : Nat} {n : Nat} (hva : Sl w lva uva va (dg m)) (hvb : Sl w lvb uvb vb (dg n)) (hbm : (dg m).length ≤ 1000) (hbn : (dg n).length ≤ 1000) (hle : n ≤ m) :
  Ret Tryz.prog 62 [va, vb] w fun v w' => ∃ s, v = s ∧ OwnI w' w.heap.size w'.heap.size s intT (dg (m - n)) ∧ Chg 0 0 w w' := by
 have hva0 := hva.fit
 have hvb0 := hvb.fit
 refine sx_enter Tryz.func62 rfl Tryz.ntmps62 (nbl rfl) ?_
 refine sx_seq fun K1 k1 => sx_region ?_
 refine av rfl rfl (wl_nil (q_n (k1 _ _ ?_)))
 refine sx_seq fun K2 k2 => sx_region ?_
 refine mv rfl rfl (sp rfl (px_len rfl Tryz.underlying28 hva0) ?_)
 refine sx_make (c := (dg m).length) rfl xelt28 (rfl) (rfl) (by omega) (by unfold maxLen; omega) (fun s3 ws3 fs3 cs3 ls3 => ?_)
 have ns3 := fs3.made
 have zws3 := cs3.size
 refine av rfl rfl (wl_nil (q_n (k2 _ _ ?_)))
 refine sx_seq fun K4 k4 => sx_region ?_
 refine av rfl rfl (wl_nil (q_n (k4 _ _ ?_)))
 refine sx_seq fun K5 k5 => ?_
 refine sx_seq fun K6 k6 => sx_region ?_
 refine mv rfl rfl ?_
 have f7 := hva0.ext cs3
 refine sp rfl (px_len rfl Tryz.underlying28 f7) ?_
 refine mv rfl rfl (wl_nil (q_n (k6 _ _ ?_)))
 refine sx_block ?_
 refine sx_loop (fun mm aa w' => ∃ (k : Nat) (os : List Int) (c : Nat), Agr 44 [(0, va), (1, vb), (5, s3), (6, .int .i64 ((c : Nat) : Int)), (13, .int .i64 (↑(dg m).length)), (14, .int .i64 ↑k)] aa ∧ Chg w.heap.size ws3.heap.size ws3 w' ∧ Own w' w.heap.size ws3.heap.size s3 intT os.length 1 (os.map (Value.int .i64)) ∧ (mm = (dg m).length - k) ∧ (os.length = (dg m).length) ∧ (Lm os) ∧ (c ≤ 1) ∧ (k ≤ (dg m).length) ∧ (vl ((dg m).take k) + Bs ^ k * c = vl (os.take k) + vl ((dg n).take k))) (_) (fun a ha => ⟨0, List.replicate (dg m).length 0, 0, ha.sub (Sub.c 0 rfl (.c 1 rfl (.c 5 rfl (.c 6 (look_int (t := 6) rfl (by first | omega | simp)) (.c 13 (look_int (t := 13) rfl (by first | omega | simp)) (.c 14 (look_int (t := 14) rfl (by first | omega | simp)) .nil)))))), Chg.refl _ _ _, (ns3.mono (by omega) (by omega)), rfl, by simp, Lm.replicate _, by omega, by omega, by simp [vl]⟩) ?_
 rintro mm aa wl8 ⟨k, os, c, hAwl8, cwl8, hs_s3, hm, hos, hlm, hc, hk, hv⟩
 refine (show cw Tryz.prog 44 _ _ _ wl8 from ?_) aa hAwl8
 clear hAwl8
 have zwl8 := cwl8.size
 have am := (Lm_dg m).getD k
 have bn := (Lm_dg n).getD k
 refine sx_seq fun K9 k9 => sx_region ?_
 refine sp rfl (px_lt rfl rfl) ?_
 refine wl_nil (q_n (k9 _ _ ?_))
 refine sx_seq fun K10 k10 => ?_
 refine sx_condP rfl (fun h122 => ?_) (fun h122 => ?_)
 ·
  refine sx_skip ?_
  refine q_n (k10 _ _ ?_)
  refine sx_seq fun K11 k11 => ?_
  refine sx_block ?_
  refine sx_seq fun K12 k12 => sx_region ?_
  refine mv rfl rfl (av rfl rfl (wl_nil (q_n (k12 _ _ ?_))))
  refine sx_seq fun K13 k13 => sx_region ?_
  refine mv rfl rfl (mv rfl rfl ?_)
  have f14 := f7.chg cwl8 (by omega)
  refine sp rfl (px_index1 (j := k) rfl rfl (by omega) Tryz.underlying28 Tryz.sizeOf3 f14 (by omega)) ?_
  refine sp rfl (px_load rfl (f14.load1 (at_int (by omega)) Tryz.isAgg3)) ?_
  refine mv rfl rfl (sp rfl (px_sub rfl rfl (by omega)) ?_)
  refine av rfl rfl (wl_nil (q_n (k13 _ _ ?_)))
  refine sx_sub (Sub.c 0 rfl (.c 1 rfl (.c 5 rfl (.c 6 rfl (.c 7 rfl (.c 8 rfl (.c 13 rfl (.c 14 rfl .nil)))))))) ?_
  refine sx_seq fun K15 k15 => ?_
  refine sx_seq fun K16 k16 => sx_region ?_
  refine mv rfl rfl (mv rfl rfl ?_)
  have f17 := hvb0.ext cs3
  have f18 := f17.chg cwl8 (by omega)
  refine sp rfl (px_len rfl Tryz.underlying28 f18) ?_
  refine sp rfl (px_lt rfl rfl) ?_
  refine wl_nil (q_n (k16 _ _ ?_))
  refine sx_condP rfl (fun h124 => ?_) (fun h124 => ?_)
  ·
   refine sx_region ?_
   refine mv rfl rfl (mv rfl rfl (mv rfl rfl (sp rfl (px_index1 (j := k) rfl rfl (by omega) Tryz.underlying28 Tryz.sizeOf3 f18 (by omega)) ?_)))
   refine sp rfl (px_load rfl (f18.load1 (at_int (by omega)) Tryz.isAgg3)) ?_
   refine sp rfl (px_sub rfl rfl (by omega)) ?_
   refine av rfl rfl (wl_nil (q_n (k15 _ _ ?_)))
   refine sx_sub (Sub.c 0 rfl (.c 1 rfl (.c 5 rfl (.c 6 rfl (.c 7 rfl (.c 8 rfl (.c 13 rfl (.c 14 rfl .nil)))))))) ?_
   refine sx_seq fun K19 k19 => sx_region ?_
   refine av rfl rfl (wl_nil (q_n (k19 _ _ ?_)))
   refine sx_seq fun K20 k20 => ?_
   refine sx_seq fun K21 k21 => sx_region ?_
   refine mv rfl rfl (sp rfl (px_lt rfl rfl) ?_)
   refine wl_nil (q_n (k21 _ _ ?_))
   refine sx_condP rfl (fun h128 => ?_) (fun h128 => ?_)
   ·
    refine sx_seq fun K22 k22 => sx_region ?_
    refine mv rfl rfl (sp rfl (px_add rfl rfl (by omega)) ?_)
    refine av rfl rfl (wl_nil (q_n (k22 _ _ ?_)))
    refine sx_region ?_
    refine av rfl rfl (wl_nil (q_n (k20 _ _ ?_)))
    refine sx_region ?_
    refine mv rfl rfl (mv rfl rfl (mv rfl rfl (sp rfl (px_index1 (j := k) rfl rfl (by omega) Tryz.underlying28 Tryz.sizeOf3 hs_s3.sv (by omega)) ?_)))
    refine sx_storeO rfl rfl hs_s3 (by first | omega | (simp only [List.length_map]; omega)) Tryz.sizeOf3 rfl (fun w23 sw23 fw23 cw23 => ?_)
    have zw23 := cw23.size
    have nw23 := fw23.set
    refine wl_nil ?_
    refine q_bn (q_n (k11 _ _ ?_))
    refine sx_sub (Sub.c 0 rfl (.c 1 rfl (.c 5 rfl (.c 6 rfl (.c 13 rfl (.c 14 rfl .nil)))))) ?_
    refine sx_region ?_
    refine sp rfl (px_add rfl rfl (by omega)) ?_
    refine mv rfl rfl (wl_nil ?_)
    have q24 := Chg.step (l := w.heap.size) (h := ws3.heap.size) cwl8 cw23 (by omega)
    have hs : ((dg m).getD k 0).toNat + Bs * 1 = ((dg n).getD k 0).toNat + c + ((((((dg m).getD k 0) - ((c : Nat) : Int)) - ((dg n).getD k 0)) + 1000000000) : Int).toNat := by simp only [Bs]; omega
    have hv2 : vl ((dg m).take (k + 1)) + Bs ^ (k + 1) * 1 = vl ((os.set k ((((((dg m).getD k 0) - ((c : Nat) : Int)) - ((dg n).getD k 0)) + 1000000000))).take (k + 1)) + vl ((dg n).take (k + 1)) := by
     rw [vl_take_set (by omega), vl_take_succ', vl_take_succ', Nat.pow_succ]
     exact sub_step hs hv
    exact fun a ha => ⟨_, by omega, (k + 1), ((os).set k (((((dg m).getD k 0) - ((c : Nat) : Int)) - ((dg n).getD k 0)) + 1000000000)), 1, ha.sub (Sub.c 0 rfl (.c 1 rfl (.c 5 rfl (.c 6 (look_int (t := 6) rfl (by first | omega | simp)) (.c 13 rfl (.c 14 (look_int (t := 14) rfl (by first | omega | simp)) .nil)))))), q24, (nw23.mono (by omega) (by omega)), rfl, by simp [hos], hlm.set k (by omega) (by omega), by omega, by omega, hv2⟩
   refine sx_skip ?_
   refine q_n (k20 _ _ ?_)
   refine sx_region ?_
   refine mv rfl rfl (mv rfl rfl (mv rfl rfl (sp rfl (px_index1 (j := k) rfl rfl (by omega) Tryz.underlying28 Tryz.sizeOf3 hs_s3.sv (by omega)) ?_)))
   refine sx_storeO rfl rfl hs_s3 (by first | omega | (simp only [List.length_map]; omega)) Tryz.sizeOf3 rfl (fun w25 sw25 fw25 cw25 => ?_)
   have zw25 := cw25.size
   have nw25 := fw25.set
   refine wl_nil ?_
   refine q_bn (q_n (k11 _ _ ?_))
   refine sx_region ?_
   refine sp rfl (px_add rfl rfl (by omega)) ?_
   refine mv rfl rfl (wl_nil ?_)
   have q26 := Chg.step (l := w.heap.size) (h := ws3.heap.size) cwl8 cw25 (by omega)
   have hs : ((dg m).getD k 0).toNat + Bs * 0 = ((dg n).getD k 0).toNat + c + (((((dg m).getD k 0) - ((c : Nat) : Int)) - ((dg n).getD k 0)) : Int).toNat := by simp only [Bs]; omega
   have hv2 : vl ((dg m).take (k + 1)) + Bs ^ (k + 1) * 0 = vl ((os.set k (((((dg m).getD k 0) - ((c : Nat) : Int)) - ((dg n).getD k 0)))).take (k + 1)) + vl ((dg n).take (k + 1)) := by
    rw [vl_take_set (by omega), vl_take_succ', vl_take_succ', Nat.pow_succ]
    exact sub_step hs hv
   exact fun a ha => ⟨_, by omega, (k + 1), ((os).set k ((((dg m).getD k 0) - ((c : Nat) : Int)) - ((dg n).getD k 0))), 0, ha.sub (Sub.c 0 rfl (.c 1 rfl (.c 5 rfl (.c 6 (look_int (t := 6) rfl (by first | omega | simp)) (.c 13 rfl (.c 14 (look_int (t := 14) rfl (by first | omega | simp)) .nil)))))), q26, (nw25.mono (by omega) (by omega)), rfl, by simp [hos], hlm.set k (by omega) (by omega), by omega, by omega, hv2⟩
  have gn := getD_ge (zs := dg n) (k := k) (by omega)
  refine sx_skip ?_
  refine q_n (k15 _ _ ?_)
  refine sx_seq fun K27 k27 => sx_region ?_
  refine av rfl rfl (wl_nil (q_n (k27 _ _ ?_)))
  refine sx_seq fun K28 k28 => ?_
  refine sx_seq fun K29 k29 => sx_region ?_
  refine mv rfl rfl (sp rfl (px_lt rfl rfl) ?_)
  refine wl_nil (q_n (k29 _ _ ?_))
  refine sx_condP rfl (fun h128 => ?_) (fun h128 => ?_)
  ·
   refine sx_seq fun K30 k30 => sx_region ?_
   refine mv rfl rfl (sp rfl (px_add rfl rfl (by omega)) ?_)
   refine av rfl rfl (wl_nil (q_n (k30 _ _ ?_)))
   refine sx_sub (Sub.c 0 rfl (.c 1 rfl (.c 5 rfl (.c 6 rfl (.c 7 rfl (.c 8 rfl (.c 13 rfl (.c 14 rfl .nil)))))))) ?_
   refine sx_region ?_
   refine av rfl rfl (wl_nil (q_n (k28 _ _ ?_)))
   refine sx_region ?_
   refine mv rfl rfl (mv rfl rfl (mv rfl rfl (sp rfl (px_index1 (j := k) rfl rfl (by omega) Tryz.underlying28 Tryz.sizeOf3 hs_s3.sv (by omega)) ?_)))
   refine sx_storeO rfl rfl hs_s3 (by first | omega | (simp only [List.length_map]; omega)) Tryz.sizeOf3 rfl (fun w31 sw31 fw31 cw31 => ?_)
   have zw31 := cw31.size
   have nw31 := fw31.set
   refine wl_nil ?_
   refine q_bn (q_n (k11 _ _ ?_))
   refine sx_region ?_
   refine sp rfl (px_add rfl rfl (by omega)) ?_
   refine mv rfl rfl (wl_nil ?_)
   have q32 := Chg.step (l := w.heap.size) (h := ws3.heap.size) cwl8 cw31 (by omega)
   have hs : ((dg m).getD k 0).toNat + Bs * 1 = ((dg n).getD k 0).toNat + c + (((((dg m).getD k 0) - ((c : Nat) : Int)) + 1000000000) : Int).toNat := by simp only [Bs]; omega
   have hv2 : vl ((dg m).take (k + 1)) + Bs ^ (k + 1) * 1 = vl ((os.set k (((((dg m).getD k 0) - ((c : Nat) : Int)) + 1000000000))).take (k + 1)) + vl ((dg n).take (k + 1)) := by
    rw [vl_take_set (by omega), vl_take_succ', vl_take_succ', Nat.pow_succ]
    exact sub_step hs hv
   exact fun a ha => ⟨_, by omega, (k + 1), ((os).set k ((((dg m).getD k 0) - ((c : Nat) : Int)) + 1000000000)), 1, ha.sub (Sub.c 0 rfl (.c 1 rfl (.c 5 rfl (.c 6 (look_int (t := 6) rfl (by first | omega | simp)) (.c 13 rfl (.c 14 (look_int (t := 14) rfl (by first | omega | simp)) .nil)))))), q32, (nw31.mono (by omega) (by omega)), rfl, by simp [hos], hlm.set k (by omega) (by omega), by omega, by omega, hv2⟩
  refine sx_skip ?_
  refine q_n (k28 _ _ ?_)
  refine sx_region ?_
  refine mv rfl rfl (mv rfl rfl (mv rfl rfl (sp rfl (px_index1 (j := k) rfl rfl (by omega) Tryz.underlying28 Tryz.sizeOf3 hs_s3.sv (by omega)) ?_)))
  refine sx_storeO rfl rfl hs_s3 (by first | omega | (simp only [List.length_map]; omega)) Tryz.sizeOf3 rfl (fun w33 sw33 fw33 cw33 => ?_)
  have zw33 := cw33.size
  have nw33 := fw33.set
  refine wl_nil ?_
  refine q_bn (q_n (k11 _ _ ?_))
  refine sx_sub (Sub.c 0 rfl (.c 1 rfl (.c 5 rfl (.c 6 rfl (.c 13 rfl (.c 14 rfl .nil)))))) ?_
  refine sx_region ?_
  refine sp rfl (px_add rfl rfl (by omega)) ?_
  refine mv rfl rfl (wl_nil ?_)
  have q34 := Chg.step (l := w.heap.size) (h := ws3.heap.size) cwl8 cw33 (by omega)
  have hs : ((dg m).getD k 0).toNat + Bs * 0 = ((dg n).getD k 0).toNat + c + ((((dg m).getD k 0) - ((c : Nat) : Int)) : Int).toNat := by simp only [Bs]; omega
  have hv2 : vl ((dg m).take (k + 1)) + Bs ^ (k + 1) * 0 = vl ((os.set k ((((dg m).getD k 0) - ((c : Nat) : Int)))).take (k + 1)) + vl ((dg n).take (k + 1)) := by
   rw [vl_take_set (by omega), vl_take_succ', vl_take_succ', Nat.pow_succ]
   exact sub_step hs hv
  exact fun a ha => ⟨_, by omega, (k + 1), ((os).set k (((dg m).getD k 0) - ((c : Nat) : Int))), 0, ha.sub (Sub.c 0 rfl (.c 1 rfl (.c 5 rfl (.c 6 (look_int (t := 6) rfl (by first | omega | simp)) (.c 13 rfl (.c 14 (look_int (t := 14) rfl (by first | omega | simp)) .nil)))))), q34, (nw33.mono (by omega) (by omega)), rfl, by simp [hos], hlm.set k (by omega) (by omega), by omega, by omega, hv2⟩
 refine sx_exit ?_
 refine q_e (q_e (q_bx (q_n (k5 _ _ ?_))))
 refine sx_seq fun K35 k35 => ?_
 have ek : k = (dg m).length := by omega
 have hnm := len_le hle
 subst ek
 rw [List.take_length, vl_dg, vl_take_ge (show (dg n).length ≤ (dg m).length from hnm), vl_dg, ← hos, List.take_length] at hv
 have hend := sub_end hv hle (vl_lt hlm) hc
 have hvv := hend.2
 have hz := hlm
 refine sx_region ?_
 refine mv rfl rfl (sx_call rfl rfl Tryz.call51 (c_trim hs_s3 (by assumption) (by first | omega | (simp only [List.length_append, List.length_set, List.length_replicate, List.length_cons, List.length_nil] at *; omega))) (fun v36 w36 p36 => ?_))
 obtain ⟨s36, rfl, os_36, c36⟩ := p36
 have zw36 := c36.size
 refine av rfl rfl (wl_nil (q_n (k35 _ _ ?_)))
 refine sx_retc ?_
 refine sx_ret1 Tryz.results62 rfl ?_
 have hr := os_36
 rw [hvv] at hr
 have q37 := Chg.step (l := 0) (h := 0) (Chg.zero (l := 0) (h := 0) cs3) cwl8 (by omega)
 have q38 := Chg.step (l := 0) (h := 0) q37 c36 (by omega)
 exact ⟨_, rfl, hr.mono (by omega) (by omega), q38⟩

theorem c_intAdd {w : World} {va : Value} {lva uva : Nat} {x : Int} {vb : Value} {lvb uvb : Nat} {y : Int} (hva : Sl w lva uva va (dg x.natAbs)) (hvb : Sl w lvb uvb vb (dg y.natAbs)) (hbx : (dg x.natAbs).length ≤ 1000) (hby : (dg y.natAbs).length ≤ 1000) :
  Ret Tryz.prog 30 [.agg #[.bool (ng x), va], .agg #[.bool (ng y), vb]] w fun v w' => ∃ s, v = .agg #[.bool (ng (x + y)), s] ∧ OwnI w' w.heap.size w'.heap.size s intT (dg (x + y).natAbs) ∧ Chg 0 0 w w' := by
 have hva0 := hva.fit
 have hvb0 := hvb.fit
 have l2 := len_add x.natAbs y.natAbs
 have l3 := len_le (Nat.sub_le x.natAbs y.natAbs)
 have l4 := len_le (Nat.sub_le y.natAbs x.natAbs)
 refine sx_enter Tryz.func30 rfl Tryz.ntmps30 (nbl rfl) ?_
 refine sx_seq fun K1 k1 => sx_region ?_
 refine sx_box [.bool (ng x), va] rfl rfl rfl (fun b2 w3 eb2 sb2 fb2 cb2 => ?_)
 have zw3 := cb2.size
 refine sx_box [.bool (ng y), vb] rfl rfl rfl (fun b4 w5 eb4 sb4 fb4 cb4 => ?_)
 have zw5 := cb4.size
 refine sx_alloc [.bool false, (.slice none 0 0)] rfl Tryz.zeroValue30 rfl (fun b6 w7 eb6 sb6 fb6 cb6 => ?_)
 have zw7 := cb6.size
 refine wl_nil (q_n (k1 _ _ ?_))
 refine sx_seq fun K8 k8 => ?_
 refine sx_seq fun K9 k9 => sx_region ?_
 refine sp rfl (px_field rfl xfld30x0) ?_
 have f10 := fb2.ext cb4
 have f11 := f10.ext cb6
 refine sp rfl (px_load rfl (f11.load1 rfl Tryz.isAgg4)) ?_
 refine sp rfl (px_field rfl xfld30x0) ?_
 have f12 := fb4.ext cb6
 refine sp rfl (px_load rfl (f12.load1 rfl Tryz.isAgg4)) ?_
 refine sp rfl (px_eqB Tryz.underlying4 rfl rfl) ?_
 refine wl_nil (q_n (k9 _ _ ?_))
 refine sx_condB rfl (fun h46 => ?_) (fun h46 => ?_)
 ·
  refine sx_seq fun K13 k13 => ?_
  have f14 := hva0.ext cb2
  have f15 := f14.ext cb4
  have f16 := f15.ext cb6
  have f17 := hvb0.ext cb2
  have f18 := f17.ext cb4
  have f19 := f18.ext cb6
  refine dx_region (fun w' => Chg b6 (b6 + 1) w7 w') (by kernel_rfl) (Chg.zero (Chg.drew _)) ?_
  have d20 := Chg.drew w7
  have s20 : Chg b6 (b6 + 1) w7 (World.drew w7) := Chg.zero (Chg.drew _)
  have y20 : (World.drew w7).heap.size = w7.heap.size := rfl
  generalize World.drew w7 = w20 at *
  have zw20 := d20.size
  refine dt 0 rfl rfl rfl rfl s20 (fun _ hS => px_field rfl xfld30x0) ?_
  refine dt 1 rfl rfl rfl rfl s20 (fun _ hS => px_load rfl ((f11.chg hS (by omega)).load1 rfl Tryz.isAgg4)) ?_
  refine dt 2 rfl rfl rfl rfl s20 (fun _ hS => px_field rfl xfld30x1) ?_
  refine dt 3 rfl rfl rfl rfl s20 (fun _ hS => px_load rfl ((f11.chg hS (by omega)).load1 rfl Tryz.isAgg28)) ?_
  refine dt 4 rfl rfl rfl rfl s20 (fun _ hS => px_field rfl xfld30x1) ?_
  refine dt 5 rfl rfl rfl rfl s20 (fun _ hS => px_load rfl ((f12.chg hS (by omega)).load1 rfl Tryz.isAgg28)) ?_
  refine dx_eff 6 rfl (by kernel_rfl) ?_
  have f21 := f16.ext d20
  have f22 := f19.ext d20
  refine sx_call rfl rfl Tryz.call55 (c_natAdd f21 f22 (by omega) (by omega)) (fun v23 w23 p23 => ?_)
  obtain ⟨s23, rfl, os_23, c23⟩ := p23
  have zw23 := c23.size
  have s24 : Chg b6 (b6 + 1) w7 w23 := (Chg.zero (l := b6) (h := (b6 + 1)) (d20.t c23))
  refine wl_nil ?_
  refine dx_next s24 ?_
  refine dx_eff 7 rfl (by kernel_rfl) ?_
  refine sx_call rfl rfl Tryz.call20 (c_signed os_23.sv (by omega)) (fun v25 w25 p25 => ?_)
  obtain ⟨rfl, c25⟩ := p25
  have zw25 := c25.size
  have s26 : Chg b6 (b6 + 1) w7 w25 := (Chg.zero (l := b6) (h := (b6 + 1)) ((d20.t c23).t c25))
  refine wl_nil ?_
  refine dx_next s26 ?_
  refine dx_eff 8 rfl (by kernel_rfl) ?_
  have f30 := ((fb6.ext d20).ext c23).ext c25
  have f31 := os_23.ext c25
  refine sx_store (vs := [.bool (nz (ng x) (dg (x.natAbs + y.natAbs))), v23]) rfl rfl f30 rfl Tryz.sizeOf30 (nbl rfl) (one_cons rfl (one_cons f31.one one_nil)) (fun w27 sw27 fw27 cw27 => ?_)
  have zw27 := cw27.size
  have gw27 : Blk w27 b6 [.bool (nz (ng x) (dg (x.natAbs + y.natAbs))), v23] 30 := fw27
  have q33 := Chg.step (l := b6) (h := (b6 + 1)) (Chg.zero (l := b6) (h := (b6 + 1)) ((d20.t c23).t c25)) cw27 (by omega)
  have s32 : Chg b6 (b6 + 1) w7 w27 := q33
  refine wl_nil ?_
  refine dx_next s32 ?_
  refine dx_done (by kernel_rfl) ?_
  refine q_n (k13 _ _ ?_)
  refine sx_sub (Sub.c 2 rfl (.c 3 rfl (.c 4 rfl .nil))) ?_
  refine sx_retc ?_
  refine q_r (sx_ret1 Tryz.results30 ⟨_, rfl, gw27.loadA (vs := [.bool (nz (ng x) (dg (x.natAbs + y.natAbs))), v23]) (look_lit rfl) Tryz.isAgg30 Tryz.sizeOf30⟩ ?_)
  have hh := add_sg h46
  rw [← hh.1, ← hh.2]
  have f34 := f31.chg cw27 (by omega)
  have q35 := Chg.step (l := 0) (h := 0) (Chg.zero (l := 0) (h := 0) (((((cb2.t cb4).t cb6).t d20).t c23).t c25)) cw27 (by omega)
  exact ⟨_, rfl, (Own.mono f34 (by omega) (by omega)), q35⟩
 refine sx_skip ?_
 refine q_n (k8 _ _ ?_)
 refine sx_seq fun K36 k36 => ?_
 refine sx_seq fun K37 k37 => sx_region ?_
 refine sp rfl (px_field rfl xfld30x1) ?_
 refine sp rfl (px_load rfl (f11.load1 rfl Tryz.isAgg28)) ?_
 refine sp rfl (px_field rfl xfld30x1) ?_
 refine sp rfl (px_load rfl (f12.load1 rfl Tryz.isAgg28)) ?_
 have f38 := hva0.ext cb2
 have f39 := f38.ext cb4
 have f40 := f39.ext cb6
 have f41 := hvb0.ext cb2
 have f42 := f41.ext cb4
 have f43 := f42.ext cb6
 refine sx_call rfl rfl Tryz.call54 (c_natCmp f40 f43 (by omega)) (fun v44 w44 p44 => ?_)
 obtain ⟨rfl, c44⟩ := p44
 have zw44 := c44.size
 refine sp rfl (px_lt rfl rfl) ?_
 refine wl_nil (q_n (k37 _ _ ?_))
 refine sx_sub (Sub.c 2 rfl (.c 3 rfl (.c 4 rfl (.c 23 rfl .nil)))) ?_
 refine sx_condP rfl (fun h49 => ?_) (fun h49 => ?_)
 ·
  rw [cmpL_dg] at h49
  have hlt := cmpN_neg.1 h49
  refine sx_region ?_
  have f45 := f12.ext c44
  refine sp rfl (px_load rfl (f45.loadA (vs := [.bool (ng y), vb]) (look_lit rfl) Tryz.isAgg30 Tryz.sizeOf30)) ?_
  have f46 := f11.ext c44
  refine sp rfl (px_load rfl (f46.loadA (vs := [.bool (ng x), va]) (look_lit rfl) Tryz.isAgg30 Tryz.sizeOf30)) ?_
  have f48 := f43.ext c44
  refine sx_store (vs := [.bool (ng y), vb]) rfl rfl f46 rfl Tryz.sizeOf30 (nbl rfl) (one_cons rfl (one_cons f48.one one_nil)) (fun w47 sw47 fw47 cw47 => ?_)
  have zw47 := cw47.size
  have gw47 : Blk w47 b2 [.bool (ng y), vb] 30 := fw47
  have f50 := f45.chg cw47 (by omega)
  have f52 := (f40.ext c44).chg cw47 (by omega)
  refine sx_store (vs := [.bool (ng x), va]) rfl rfl f50 rfl Tryz.sizeOf30 (nbl rfl) (one_cons rfl (one_cons f52.one one_nil)) (fun w49 sw49 fw49 cw49 => ?_)
  have zw49 := cw49.size
  have gw49 : Blk w49 b4 [.bool (ng x), va] 30 := fw49
  refine wl_nil (q_n (k36 _ _ ?_))
  refine sx_seq fun K53 k53 => ?_
  have f54 := gw47.chg cw49 (by omega)
  have f55 := f52.chg cw49 (by omega)
  have f56 := f48.chg cw47 (by omega)
  have f57 := f56.chg cw49 (by omega)
  refine dx_region (fun w' => Chg b6 (b6 + 1) w49 w') (by kernel_rfl) (Chg.zero (Chg.drew _)) ?_
  have d58 := Chg.drew w49
  have s58 : Chg b6 (b6 + 1) w49 (World.drew w49) := Chg.zero (Chg.drew _)
  have y58 : (World.drew w49).heap.size = w49.heap.size := rfl
  generalize World.drew w49 = w58 at *
  have zw58 := d58.size
  refine dt 0 rfl rfl rfl rfl s58 (fun _ hS => px_field rfl xfld30x0) ?_
  refine dt 1 rfl rfl rfl rfl s58 (fun _ hS => px_load rfl ((f54.chg hS (by omega)).load1 rfl Tryz.isAgg4)) ?_
  refine dt 2 rfl rfl rfl rfl s58 (fun _ hS => px_field rfl xfld30x1) ?_
  refine dt 3 rfl rfl rfl rfl s58 (fun _ hS => px_load rfl ((f54.chg hS (by omega)).load1 rfl Tryz.isAgg28)) ?_
  refine dt 4 rfl rfl rfl rfl s58 (fun _ hS => px_field rfl xfld30x1) ?_
  refine dt 5 rfl rfl rfl rfl s58 (fun _ hS => px_load rfl ((gw49.chg hS (by omega)).load1 rfl Tryz.isAgg28)) ?_
  refine dx_eff 6 rfl (by kernel_rfl) ?_
  have f59 := f57.ext d58
  have f60 := f55.ext d58
  refine sx_call rfl rfl Tryz.call62 (c_natSub f59 f60 (by omega) (by omega) (by omega)) (fun v61 w61 p61 => ?_)
  obtain ⟨s61, rfl, os_61, c61⟩ := p61
  have zw61 := c61.size
  have s62 : Chg b6 (b6 + 1) w49 w61 := (Chg.zero (l := b6) (h := (b6 + 1)) (d58.t c61))
  refine wl_nil ?_
  refine dx_next s62 ?_
  refine dx_eff 7 rfl (by kernel_rfl) ?_
  refine sx_call rfl rfl Tryz.call20 (c_signed os_61.sv (by omega)) (fun v63 w63 p63 => ?_)
  obtain ⟨rfl, c63⟩ := p63
  have zw63 := c63.size
  have s64 : Chg b6 (b6 + 1) w49 w63 := (Chg.zero (l := b6) (h := (b6 + 1)) ((d58.t c61).t c63))
  refine wl_nil ?_
  refine dx_next s64 ?_
  refine dx_eff 8 rfl (by kernel_rfl) ?_
  have f67 := (fb6.ext c44).chg cw47 (by omega)
  have f68 := f67.chg cw49 (by omega)
  have f71 := ((f68.ext d58).ext c61).ext c63
  have f72 := os_61.ext c63
  refine sx_store (vs := [.bool (nz (ng y) (dg (y.natAbs - x.natAbs))), v61]) rfl rfl f71 rfl Tryz.sizeOf30 (nbl rfl) (one_cons rfl (one_cons f72.one one_nil)) (fun w65 sw65 fw65 cw65 => ?_)
  have zw65 := cw65.size
  have gw65 : Blk w65 b6 [.bool (nz (ng y) (dg (y.natAbs - x.natAbs))), v61] 30 := fw65
  have q74 := Chg.step (l := b6) (h := (b6 + 1)) (Chg.zero (l := b6) (h := (b6 + 1)) ((d58.t c61).t c63)) cw65 (by omega)
  have s73 : Chg b6 (b6 + 1) w49 w65 := q74
  refine wl_nil ?_
  refine dx_next s73 ?_
  refine dx_done (by kernel_rfl) ?_
  refine q_n (k53 _ _ ?_)
  refine sx_retc ?_
  refine sx_ret1 Tryz.results30 ⟨_, rfl, gw65.loadA (vs := [.bool (nz (ng y) (dg (y.natAbs - x.natAbs))), v61]) (look_lit rfl) Tryz.isAgg30 Tryz.sizeOf30⟩ ?_
  have hh := (sub_sg2 h46 (by omega))
  rw [← hh.1, ← hh.2]
  have f75 := f72.chg cw65 (by omega)
  have q76 := Chg.step (l := 0) (h := 0) (Chg.zero (l := 0) (h := 0) (((cb2.t cb4).t cb6).t c44)) cw47 (by omega)
  have q77 := Chg.step (l := 0) (h := 0) q76 cw49 (by omega)
  have q78 := Chg.step (l := 0) (h := 0) q77 ((d58.t c61).t c63) (by omega)
  have q79 := Chg.step (l := 0) (h := 0) q78 cw65 (by omega)
  exact ⟨_, rfl, (Own.mono f75 (by omega) (by omega)), q79⟩
 rw [cmpL_dg] at h49
 have hge := cmpN_nonneg.1 (Int.not_lt.1 h49)
 refine sx_skip ?_
 refine q_n (k36 _ _ ?_)
 refine sx_seq fun K80 k80 => ?_
 have f81 := f11.ext c44
 have f82 := f12.ext c44
 refine dx_region (fun w' => Chg b6 (b6 + 1) w44 w') (by kernel_rfl) (Chg.zero (Chg.drew _)) ?_
 have d85 := Chg.drew w44
 have s85 : Chg b6 (b6 + 1) w44 (World.drew w44) := Chg.zero (Chg.drew _)
 have y85 : (World.drew w44).heap.size = w44.heap.size := rfl
 generalize World.drew w44 = w85 at *
 have zw85 := d85.size
 refine dt 0 rfl rfl rfl rfl s85 (fun _ hS => px_field rfl xfld30x0) ?_
 refine dt 1 rfl rfl rfl rfl s85 (fun _ hS => px_load rfl ((f81.chg hS (by omega)).load1 rfl Tryz.isAgg4)) ?_
 refine dt 2 rfl rfl rfl rfl s85 (fun _ hS => px_field rfl xfld30x1) ?_
 refine dt 3 rfl rfl rfl rfl s85 (fun _ hS => px_load rfl ((f81.chg hS (by omega)).load1 rfl Tryz.isAgg28)) ?_
 refine dt 4 rfl rfl rfl rfl s85 (fun _ hS => px_field rfl xfld30x1) ?_
 refine dt 5 rfl rfl rfl rfl s85 (fun _ hS => px_load rfl ((f82.chg hS (by omega)).load1 rfl Tryz.isAgg28)) ?_
 refine dx_eff 6 rfl (by kernel_rfl) ?_
 have f86 := (f40.ext c44).ext d85
 have f87 := (f43.ext c44).ext d85
 refine sx_call rfl rfl Tryz.call62 (c_natSub f86 f87 (by omega) (by omega) (by omega)) (fun v88 w88 p88 => ?_)
 obtain ⟨s88, rfl, os_88, c88⟩ := p88
 have zw88 := c88.size
 have s89 : Chg b6 (b6 + 1) w44 w88 := (Chg.zero (l := b6) (h := (b6 + 1)) (d85.t c88))
 refine wl_nil ?_
 refine dx_next s89 ?_
 refine dx_eff 7 rfl (by kernel_rfl) ?_
 refine sx_call rfl rfl Tryz.call20 (c_signed os_88.sv (by omega)) (fun v90 w90 p90 => ?_)
 obtain ⟨rfl, c90⟩ := p90
 have zw90 := c90.size
 have s91 : Chg b6 (b6 + 1) w44 w90 := (Chg.zero (l := b6) (h := (b6 + 1)) ((d85.t c88).t c90))
 refine wl_nil ?_
 refine dx_next s91 ?_
 refine dx_eff 8 rfl (by kernel_rfl) ?_
 have f96 := (((fb6.ext c44).ext d85).ext c88).ext c90
 have f97 := os_88.ext c90
 refine sx_store (vs := [.bool (nz (ng x) (dg (x.natAbs - y.natAbs))), v88]) rfl rfl f96 rfl Tryz.sizeOf30 (nbl rfl) (one_cons rfl (one_cons f97.one one_nil)) (fun w92 sw92 fw92 cw92 => ?_)
 have zw92 := cw92.size
 have gw92 : Blk w92 b6 [.bool (nz (ng x) (dg (x.natAbs - y.natAbs))), v88] 30 := fw92
 have q99 := Chg.step (l := b6) (h := (b6 + 1)) (Chg.zero (l := b6) (h := (b6 + 1)) ((d85.t c88).t c90)) cw92 (by omega)
 have s98 : Chg b6 (b6 + 1) w44 w92 := q99
 refine wl_nil ?_
 refine dx_next s98 ?_
 refine dx_done (by kernel_rfl) ?_
 refine q_n (k80 _ _ ?_)
 refine sx_retc ?_
 refine sx_ret1 Tryz.results30 ⟨_, rfl, gw92.loadA (vs := [.bool (nz (ng x) (dg (x.natAbs - y.natAbs))), v88]) (look_lit rfl) Tryz.isAgg30 Tryz.sizeOf30⟩ ?_
 have hh := sub_sg h46 hge
 rw [← hh.1, ← hh.2]
 have f100 := f97.chg cw92 (by omega)
 have q101 := Chg.step (l := 0) (h := 0) (Chg.zero (l := 0) (h := 0) ((((((cb2.t cb4).t cb6).t c44).t d85).t c88).t c90)) cw92 (by omega)
 exact ⟨_, rfl, (Own.mono f100 (by omega) (by omega)), q101⟩

theorem c_iMoneySub {w : World} {c1 : ByteArray} {n1 : Bool} {v1 : Value} {lv1 uv1 : Nat} {z1 : List Int} {c2 : ByteArray} {n2 : Bool} {v2 : Value} {lv2 uv2 : Nat} {z2 : List Int} (hG0 : Glob w) (hv1 : Sl w lv1 uv1 v1 (z1)) (hv2 : Sl w lv2 uv2 v2 (z2)) (h63 : z1.length ≤ 4611686018427387904 ∧ z2.length ≤ 4611686018427387904) :
  Ret Tryz.prog 10 [.agg #[.string c1, .bool n1, v1], .agg #[.string c2, .bool n2, v2]] w fun v w' => ∃ s, v = .tuple #[.agg #[.string ((mBin gSub c1 n1 z1 c2 n2 z2).1), .bool ((mBin gSub c1 n1 z1 c2 n2 z2).2.1), s], .bool ((mBin gSub c1 n1 z1 c2 n2 z2).2.2.2)] ∧ OwnI w' w.heap.size w'.heap.size s intT ((mBin gSub c1 n1 z1 c2 n2 z2).2.2.1) ∧ ((mBin gSub c1 n1 z1 c2 n2 z2).2.2.1.length ≤ 4) ∧ Chg 0 0 w w' := by
 have hv10 := hv1.fit
 have hv20 := hv2.fit
 refine sx_enter Tryz.func10 rfl Tryz.ntmps10 (nbl rfl) ?_
 refine sx_seq fun K1 k1 => sx_region ?_
 refine sx_box [.string c1, .bool n1, v1] rfl rfl rfl (fun b2 w3 eb2 sb2 fb2 cb2 => ?_)
 have zw3 := cb2.size
 refine sx_box [.string c2, .bool n2, v2] rfl rfl rfl (fun b4 w5 eb4 sb4 fb4 cb4 => ?_)
 have zw5 := cb4.size
 refine sx_alloc [.string (⟨#[]⟩), .bool false, (.slice none 0 0)] rfl Tryz.zeroValue32 rfl (fun b6 w7 eb6 sb6 fb6 cb6 => ?_)
 have zw7 := cb6.size
 refine av rfl rfl (wl_nil (q_n (k1 _ _ ?_)))
 refine sx_seq fun K8 k8 => ?_
 refine sx_seq fun K9 k9 => sx_region ?_
 have f10 := fb2.ext cb4
 have f11 := f10.ext cb6
 refine sp rfl (px_load rfl (f11.loadA (vs := [.string c1, .bool n1, v1]) (look_lit rfl) Tryz.isAgg32 Tryz.sizeOf32)) ?_
 have f12 := fb4.ext cb6
 refine sp rfl (px_load rfl (f12.loadA (vs := [.string c2, .bool n2, v2]) (look_lit rfl) Tryz.isAgg32 Tryz.sizeOf32)) ?_
 have f13 := hG0.ext cb2
 have f14 := f13.ext cb4
 have f15 := f14.ext cb6
 have f16 := hv10.ext cb2
 have f17 := f16.ext cb4
 have f18 := f17.ext cb6
 have f19 := hv20.ext cb2
 have f20 := f19.ext cb4
 have f21 := f20.ext cb6
 refine sx_call rfl rfl Tryz.call29 (c_alike f15 f18 f21 (by omega)) (fun v22 w22 p22 => ?_)
 obtain ⟨rfl, c22⟩ := p22
 have zw22 := c22.size
 refine sp rfl (px_notP rfl) ?_
 refine wl_nil (q_n (k9 _ _ ?_))
 refine sx_condP rfl (fun h63 => ?_) (fun h63 => ?_)
 ·
  refine sx_seq fun K23 k23 => sx_region ?_
  refine sp rfl (px_build rfl (xbld32x  _)) ?_
  have f25 := fb6.ext c22
  refine sx_store (vs := [.string (⟨#[]⟩), .bool false, (.slice none 0 0)]) rfl rfl f25 rfl Tryz.sizeOf32 (nbl rfl) (o3 rfl rfl rfl) (fun w24 sw24 fw24 cw24 => ?_)
  have zw24 := cw24.size
  have gw24 : Blk w24 b6 [.string (⟨#[]⟩), .bool false, (.slice none 0 0)] 32 := fw24
  refine av rfl rfl (wl_nil (q_n (k23 _ _ ?_)))
  refine sx_retc ?_
  refine q_r (sx_ret2 Tryz.results10 ⟨_, rfl, gw24.loadA (vs := [.string (⟨#[]⟩), .bool false, (.slice none 0 0)]) (look_lit rfl) Tryz.isAgg32 Tryz.sizeOf32⟩ rfl ?_)
  rw [mBin_no (by assumption)]
  have q26 := Chg.step (l := 0) (h := 0) (Chg.zero (l := 0) (h := 0) (((cb2.t cb4).t cb6).t c22)) cw24 (by omega)
  exact ⟨_, rfl, Own.nil _ _ _ _ _, by simp [noM], q26⟩
 have hA := Decidable.not_not.1 h63
 obtain ⟨x1, rfl, rfl, hx1⟩ := hA.1.int
 obtain ⟨x2, rfl, rfl, hx2⟩ := hA.2.1.int
 have la := len_addI x1 x2
 have lb := len_addI x1 (-x2)
 have lc : (dg (-x2).natAbs).length = (dg x2.natAbs).length := by rw [Int.natAbs_neg]
 refine sx_skip ?_
 refine q_n (k8 _ _ ?_)
 refine sx_seq fun K27 k27 => ?_
 have f29 := f11.ext c22
 have f30 := f12.ext c22
 refine dx_region (fun w' => Chg b6 (b6 + 1) w22 w') (by kernel_rfl) (Chg.zero (Chg.drew _)) ?_
 have d33 := Chg.drew w22
 have s33 : Chg b6 (b6 + 1) w22 (World.drew w22) := Chg.zero (Chg.drew _)
 have y33 : (World.drew w22).heap.size = w22.heap.size := rfl
 generalize World.drew w22 = w33 at *
 have zw33 := d33.size
 refine dt 0 rfl rfl rfl rfl s33 (fun _ hS => px_field rfl xfld32x0) ?_
 refine dt 1 rfl rfl rfl rfl s33 (fun _ hS => px_load rfl ((f29.chg hS (by omega)).load1 rfl Tryz.isAgg9)) ?_
 refine dt 2 rfl rfl rfl rfl s33 (fun _ hS => px_field rfl xfld32x1) ?_
 refine dt 3 rfl rfl rfl rfl s33 (fun _ hS => px_load rfl ((f29.chg hS (by omega)).loadA (vs := [.bool (ng x1), v1]) (look_lit rfl) Tryz.isAgg30 Tryz.sizeOf30)) ?_
 refine dt 4 rfl rfl rfl rfl s33 (fun _ hS => px_field rfl xfld32x1) ?_
 refine dt 5 rfl rfl rfl rfl s33 (fun _ hS => px_load rfl ((f30.chg hS (by omega)).loadA (vs := [.bool (ng x2), v2]) (look_lit rfl) Tryz.isAgg30 Tryz.sizeOf30)) ?_
 refine dx_eff 6 rfl (by kernel_rfl) ?_
 have f34 := (f21.ext c22).ext d33
 refine sx_call rfl rfl Tryz.call31 (c_intNeg f34 (by omega)) (fun v35 w35 p35 => ?_)
 obtain ⟨s35, rfl, os_35, c35⟩ := p35
 have zw35 := c35.size
 have s36 : Chg b6 (b6 + 1) w22 w35 := (Chg.zero (l := b6) (h := (b6 + 1)) (d33.t c35))
 refine wl_nil ?_
 refine dx_next s36 ?_
 refine dx_eff 7 rfl (by kernel_rfl) ?_
 have f38 := ((f18.ext c22).ext d33).ext c35
 refine sx_call rfl rfl Tryz.call30 (c_intAdd f38 os_35.sv (by omega) (by omega)) (fun v39 w39 p39 => ?_)
 obtain ⟨s39, rfl, os_39, c39⟩ := p39
 have zw39 := c39.size
 have s40 : Chg b6 (b6 + 1) w22 w39 := (Chg.zero (l := b6) (h := (b6 + 1)) ((d33.t c35).t c39))
 refine wl_nil ?_
 refine dx_next s40 ?_
 refine dx_eff 8 rfl (by kernel_rfl) ?_
 have f43 := (((f15.ext c22).ext d33).ext c35).ext c39
 refine sx_call rfl rfl Tryz.call22 (c_moneyOf f43 os_39 (by omega) (by omega)) (fun v44 w44 p44 => ?_)
 obtain ⟨s44, rfl, os_44, c44⟩ := p44
 have zw44 := c44.size
 have s45 : Chg b6 (b6 + 1) w22 w44 := (Chg.zero (l := b6) (h := (b6 + 1)) (((d33.t c35).t c39).t c44))
 refine wl_nil ?_
 refine dx_next s45 ?_
 refine dt 9 rfl rfl rfl rfl s45 (fun _ hS => px_ex2 rfl rfl) ?_
 refine dt 10 rfl rfl rfl rfl s45 (fun _ hS => px_ex2 rfl rfl) ?_
 refine dx_eff 11 rfl (by kernel_rfl) ?_
 have f51 := ((((fb6.ext c22).ext d33).ext c35).ext c39).ext c44
 refine sx_store (vs := [.string ((mR c1 (x1 + (-x2))).1), .bool ((mR c1 (x1 + (-x2))).2.1), s44]) rfl rfl f51 rfl Tryz.sizeOf32 (nbl rfl) (one_cons rfl (one_cons rfl (one_cons os_44.one one_nil))) (fun w46 sw46 fw46 cw46 => ?_)
 have zw46 := cw46.size
 have gw46 : Blk w46 b6 [.string ((mR c1 (x1 + (-x2))).1), .bool ((mR c1 (x1 + (-x2))).2.1), s44] 32 := fw46
 have q53 := Chg.step (l := b6) (h := (b6 + 1)) (Chg.zero (l := b6) (h := (b6 + 1)) (((d33.t c35).t c39).t c44)) cw46 (by omega)
 have s52 : Chg b6 (b6 + 1) w22 w46 := q53
 refine wl_nil ?_
 refine dx_next s52 ?_
 refine dt 12 rfl rfl rfl rfl s52 (fun _ hS => px_assign rfl) ?_
 refine dx_done (by kernel_rfl) ?_
 refine q_n (k27 _ _ ?_)
 refine sx_sub (Sub.c 4 rfl (.c 5 rfl .nil)) ?_
 refine sx_retc ?_
 refine sx_ret2 Tryz.results10 ⟨_, rfl, gw46.loadA (vs := [.string ((mR c1 (x1 + (-x2))).1), .bool ((mR c1 (x1 + (-x2))).2.1), s44]) (look_lit rfl) Tryz.isAgg32 Tryz.sizeOf32⟩ rfl ?_
 rw [mBin_ok hA]
 have q54 := Chg.step (l := 0) (h := 0) (Chg.zero (l := 0) (h := 0) (((((((cb2.t cb4).t cb6).t c22).t d33).t c35).t c39).t c44)) cw46 (by omega)
 have f55 := os_44.chg cw46 (by omega)
 exact ⟨_, rfl, (Own.mono f55 (by omega) (by omega)), mR_len, q54⟩

theorem c_ratNum {w : World} {va : Value} {lva uva : Nat} {x : Int} {vd : Value} {lvd uvd : Nat} {yy : List Int} {vb : Value} {lvb uvb : Nat} {b : Nat} (hva : Sl w lva uva va (dg x.natAbs)) (hvd : Sl w lvd uvd vd (yy)) (hvb : Sl w lvb uvb vb (dg b)) (hbx : (dg x.natAbs).length ≤ 1000) (hbb : (dg b).length ≤ 1000) :
  Ret Tryz.prog 34 [.agg #[.bool (ng x), va, vd], vb] w fun v w' => ∃ s, v = .agg #[.bool (ng (x * ((b : Nat) : Int))), s] ∧ OwnI w' w.heap.size w'.heap.size s intT (dg (x * ((b : Nat) : Int)).natAbs) ∧ Chg 0 0 w w' := by
 have hva0 := hva.fit
 have hvd0 := hvd.fit
 have hvb0 := hvb.fit
 have lmb := len_mul x.natAbs b
 refine sx_enter Tryz.func34 rfl Tryz.ntmps34 (nbl rfl) ?_
 refine sx_seq fun K1 k1 => sx_region ?_
 refine sx_box [.bool (ng x), va, vd] rfl rfl rfl (fun b2 w3 eb2 sb2 fb2 cb2 => ?_)
 have zw3 := cb2.size
 refine sx_alloc [.bool false, (.slice none 0 0)] rfl Tryz.zeroValue30 rfl (fun b4 w5 eb4 sb4 fb4 cb4 => ?_)
 have zw5 := cb4.size
 refine wl_nil (q_n (k1 _ _ ?_))
 refine sx_seq fun K6 k6 => ?_
 have f7 := fb2.ext cb4
 have f8 := hva0.ext cb2
 have f9 := f8.ext cb4
 have f10 := hvd0.ext cb2
 have f11 := f10.ext cb4
 have f12 := hvb0.ext cb2
 have f13 := f12.ext cb4
 refine dx_region (fun w' => Chg b4 (b4 + 1) w5 w') (by kernel_rfl) (Chg.zero (Chg.drew _)) ?_
 have d14 := Chg.drew w5
 have s14 : Chg b4 (b4 + 1) w5 (World.drew w5) := Chg.zero (Chg.drew _)
 have y14 : (World.drew w5).heap.size = w5.heap.size := rfl
 generalize World.drew w5 = w14 at *
 have zw14 := d14.size
 refine dt 0 rfl rfl rfl rfl s14 (fun _ hS => px_field rfl xfld38x0) ?_
 refine dt 1 rfl rfl rfl rfl s14 (fun _ hS => px_field rfl xfld30x0) ?_
 refine dt 2 rfl rfl rfl rfl s14 (fun _ hS => px_load rfl ((f7.chg hS (by omega)).load1 rfl Tryz.isAgg4)) ?_
 refine dt 3 rfl rfl rfl rfl s14 (fun _ hS => px_field rfl xfld38x0) ?_
 refine dt 4 rfl rfl rfl rfl s14 (fun _ hS => px_field rfl xfld30x1) ?_
 refine dt 5 rfl rfl rfl rfl s14 (fun _ hS => px_load rfl ((f7.chg hS (by omega)).load1 rfl Tryz.isAgg28)) ?_
 refine dt 6 rfl rfl rfl rfl s14 (fun _ hS => px_move rfl) ?_
 refine dx_eff 7 rfl (by kernel_rfl) ?_
 have f15 := f9.ext d14
 have f16 := f13.ext d14
 refine sx_call rfl rfl Tryz.call21 (c_natMul f15 f16 (by omega) (by omega)) (fun v17 w17 p17 => ?_)
 obtain ⟨s17, rfl, os_17, c17⟩ := p17
 have zw17 := c17.size
 have s18 : Chg b4 (b4 + 1) w5 w17 := (Chg.zero (l := b4) (h := (b4 + 1)) (d14.t c17))
 refine wl_nil ?_
 refine dx_next s18 ?_
 refine dx_eff 8 rfl (by kernel_rfl) ?_
 refine sx_call rfl rfl Tryz.call20 (c_signed os_17.sv (by omega)) (fun v19 w19 p19 => ?_)
 obtain ⟨rfl, c19⟩ := p19
 have zw19 := c19.size
 have s20 : Chg b4 (b4 + 1) w5 w19 := (Chg.zero (l := b4) (h := (b4 + 1)) ((d14.t c17).t c19))
 refine wl_nil ?_
 refine dx_next s20 ?_
 refine dx_eff 9 rfl (by kernel_rfl) ?_
 have f24 := ((fb4.ext d14).ext c17).ext c19
 have f25 := os_17.ext c19
 refine sx_store (vs := [.bool (nz (ng x) (dg (x.natAbs * b))), v17]) rfl rfl f24 rfl Tryz.sizeOf30 (nbl rfl) (one_cons rfl (one_cons f25.one one_nil)) (fun w21 sw21 fw21 cw21 => ?_)
 have zw21 := cw21.size
 have gw21 : Blk w21 b4 [.bool (nz (ng x) (dg (x.natAbs * b))), v17] 30 := fw21
 have q27 := Chg.step (l := b4) (h := (b4 + 1)) (Chg.zero (l := b4) (h := (b4 + 1)) ((d14.t c17).t c19)) cw21 (by omega)
 have s26 : Chg b4 (b4 + 1) w5 w21 := q27
 refine wl_nil ?_
 refine dx_next s26 ?_
 refine dx_done (by kernel_rfl) ?_
 refine q_n (k6 _ _ ?_)
 refine sx_retc ?_
 refine sx_ret1 Tryz.results34 ⟨_, rfl, gw21.loadA (vs := [.bool (nz (ng x) (dg (x.natAbs * b))), v17]) (look_lit rfl) Tryz.isAgg30 Tryz.sizeOf30⟩ ?_
 have hh := mul_nat_sg x b
 rw [← hh.1, ← hh.2]
 have q28 := Chg.step (l := 0) (h := 0) (Chg.zero (l := 0) (h := 0) ((((cb2.t cb4).t d14).t c17).t c19)) cw21 (by omega)
 have f29 := f25.chg cw21 (by omega)
 exact ⟨_, rfl, (Own.mono f29 (by omega) (by omega)), q28⟩

theorem c_intCmp {w : World} {va : Value} {lva uva : Nat} {x : Int} {vb : Value} {lvb uvb : Nat} {y : Int} (hva : Sl w lva uva va (dg x.natAbs)) (hvb : Sl w lvb uvb vb (dg y.natAbs)) (hbx : (dg x.natAbs).length ≤ 900) (hby : (dg y.natAbs).length ≤ 900) :
  Ret Tryz.prog 33 [.agg #[.bool (ng x), va], .agg #[.bool (ng y), vb]] w fun v w' => v = .int .i64 (cmpI x y) ∧ Chg 0 0 w w' := by
 have hva0 := hva.fit
 have hvb0 := hvb.fit
 refine sx_enter Tryz.func33 rfl Tryz.ntmps33 (nbl rfl) ?_
 refine sx_seq fun K1 k1 => sx_region ?_
 refine sx_box [.bool (ng x), va] rfl rfl rfl (fun b2 w3 eb2 sb2 fb2 cb2 => ?_)
 have zw3 := cb2.size
 refine sx_box [.bool (ng y), vb] rfl rfl rfl (fun b4 w5 eb4 sb4 fb4 cb4 => ?_)
 have zw5 := cb4.size
 refine av rfl rfl (wl_nil (q_n (k1 _ _ ?_)))
 refine sx_seq fun K6 k6 => ?_
 have f7 := fb2.ext cb4
 have f8 := hva0.ext cb2
 have f9 := f8.ext cb4
 have f10 := hvb0.ext cb2
 have f11 := f10.ext cb4
 refine dx_region (fun w' => Chg 0 0 w5 w') (by kernel_rfl) (Chg.zero (Chg.drew _)) ?_
 have d12 := Chg.drew w5
 have s12 : Chg 0 0 w5 (World.drew w5) := Chg.zero (Chg.drew _)
 have y12 : (World.drew w5).heap.size = w5.heap.size := rfl
 generalize World.drew w5 = w12 at *
 have zw12 := d12.size
 refine dt 0 rfl rfl rfl rfl s12 (fun _ hS => px_load rfl ((f7.chg hS (by omega)).loadA (vs := [.bool (ng x), va]) (look_lit rfl) Tryz.isAgg30 Tryz.sizeOf30)) ?_
 refine dt 1 rfl rfl rfl rfl s12 (fun _ hS => px_load rfl ((fb4.chg hS (by omega)).loadA (vs := [.bool (ng y), vb]) (look_lit rfl) Tryz.isAgg30 Tryz.sizeOf30)) ?_
 refine dx_eff 2 rfl (by kernel_rfl) ?_
 have f13 := f11.ext d12
 refine sx_call rfl rfl Tryz.call31 (c_intNeg f13 (by omega)) (fun v14 w14 p14 => ?_)
 obtain ⟨s14, rfl, os_14, c14⟩ := p14
 have zw14 := c14.size
 have s15 : Chg 0 0 w5 w14 := (d12.t c14)
 refine wl_nil ?_
 refine dx_next s15 ?_
 refine dx_eff 3 rfl (by kernel_rfl) ?_
 have f17 := (f9.ext d12).ext c14
 refine sx_call rfl rfl Tryz.call30 (c_intAdd f17 os_14.sv (by omega) (by rw [Int.natAbs_neg]; omega)) (fun v18 w18 p18 => ?_)
 obtain ⟨s18, rfl, os_18, c18⟩ := p18
 have zw18 := c18.size
 have s19 : Chg 0 0 w5 w18 := ((d12.t c14).t c18)
 refine wl_nil ?_
 refine dx_next s19 ?_
 refine dx_eff 4 rfl (by kernel_rfl) ?_
 refine sx_call rfl rfl Tryz.call65 (c_intSign os_18.sv (by have h := len_addI x (-y); rw [Int.natAbs_neg] at h; omega)) (fun v20 w20 p20 => ?_)
 obtain ⟨rfl, c20⟩ := p20
 have zw20 := c20.size
 have s21 : Chg 0 0 w5 w20 := (((d12.t c14).t c18).t c20)
 refine wl_nil ?_
 refine dx_next s21 ?_
 refine dt 5 rfl rfl rfl rfl s21 (fun _ hS => px_assign rfl) ?_
 refine dx_done (by kernel_rfl) ?_
 refine q_n (k6 _ _ ?_)
 refine sx_retc ?_
 refine sx_ret1 Tryz.results33 rfl ?_
 exact ⟨(by rw [cmpI_sign]), (((((cb2.t cb4).t d12).t c14).t c18).t c20)⟩

theorem c_iRatCmpK {w : World} {va1 : Value} {lva1 uva1 : Nat} {x1 : Int} {vd1 : Value} {lvd1 uvd1 : Nat} {e1 : Nat} {va2 : Value} {lva2 uva2 : Nat} {x2 : Int} {vd2 : Value} {lvd2 uvd2 : Nat} {e2 : Nat} (hva1 : Sl w lva1 uva1 va1 (dg x1.natAbs)) (hvd1 : Sl w lvd1 uvd1 vd1 (dg e1)) (hva2 : Sl w lva2 uva2 va2 (dg x2.natAbs)) (hvd2 : Sl w lvd2 uvd2 vd2 (dg e2)) (hR1 : ROk (ng x1) (dg x1.natAbs) (dg e1)) (hR2 : ROk (ng x2) (dg x2.natAbs) (dg e2)) :
  Ret Tryz.prog 11 [.agg #[.bool (ng x1), va1, vd1], .agg #[.bool (ng x2), va2, vd2]] w fun v w' => v = .int .i64 (cmpI (x1 * ((e2 : Nat) : Int)) (x2 * ((e1 : Nat) : Int))) ∧ Chg 0 0 w w' := by
 have hva10 := hva1.fit
 have hvd10 := hvd1.fit
 have hva20 := hva2.fit
 have hvd20 := hvd2.fit
 have hi1 := ROk_iff.1 hR1
 have hi2 := ROk_iff.1 hR2
 have l1 := len_mul x1.natAbs e2
 have l2 := len_mul x2.natAbs e1
 have a1 : (x1 * (e2 : Int)).natAbs = x1.natAbs * e2 := by rw [Int.natAbs_mul, Int.natAbs_natCast]
 have a2 : (x2 * (e1 : Int)).natAbs = x2.natAbs * e1 := by rw [Int.natAbs_mul, Int.natAbs_natCast]
 refine sx_enter Tryz.func11 rfl Tryz.ntmps11 (nbl rfl) ?_
 refine sx_seq fun K1 k1 => sx_region ?_
 refine sx_box [.bool (ng x1), va1, vd1] rfl rfl rfl (fun b2 w3 eb2 sb2 fb2 cb2 => ?_)
 have zw3 := cb2.size
 refine sx_box [.bool (ng x2), va2, vd2] rfl rfl rfl (fun b4 w5 eb4 sb4 fb4 cb4 => ?_)
 have zw5 := cb4.size
 refine av rfl rfl (wl_nil (q_n (k1 _ _ ?_)))
 refine sx_seq fun K6 k6 => ?_
 refine sx_seq fun K7 k7 => sx_region ?_
 have f8 := fb2.ext cb4
 refine sp rfl (px_load rfl (f8.loadA (vs := [.bool (ng x1), va1, vd1]) (look_lit rfl) Tryz.isAgg38 Tryz.sizeOf38)) ?_
 refine sp rfl (px_load rfl (fb4.loadA (vs := [.bool (ng x2), va2, vd2]) (look_lit rfl) Tryz.isAgg38 Tryz.sizeOf38)) ?_
 have f9 := hva10.ext cb2
 have f10 := f9.ext cb4
 have f11 := hvd10.ext cb2
 have f12 := f11.ext cb4
 have f13 := hva20.ext cb2
 have f14 := f13.ext cb4
 have f15 := hvd20.ext cb2
 have f16 := f15.ext cb4
 refine sx_call rfl rfl Tryz.call32 (c_ratsOk f10 f12 f14 f16 (by omega)) (fun v17 w17 p17 => ?_)
 obtain ⟨rfl, c17⟩ := p17
 have zw17 := c17.size
 refine sp rfl (px_notP rfl) ?_
 refine wl_nil (q_n (k7 _ _ ?_))
 have h98 : ¬ (¬ (ROk (ng x1) (dg x1.natAbs) (dg e1) ∧ ROk (ng x2) (dg x2.natAbs) (dg e2))) := fun h => h ⟨hR1, hR2⟩
 refine sx_condPF rfl h98 ?_
 refine sx_skip ?_
 refine q_n (k6 _ _ ?_)
 refine sx_seq fun K18 k18 => ?_
 have f19 := f8.ext c17
 have f20 := fb4.ext c17
 refine dx_region (fun w' => Chg 0 0 w17 w') (by kernel_rfl) (Chg.zero (Chg.drew _)) ?_
 have d25 := Chg.drew w17
 have s25 : Chg 0 0 w17 (World.drew w17) := Chg.zero (Chg.drew _)
 have y25 : (World.drew w17).heap.size = w17.heap.size := rfl
 generalize World.drew w17 = w25 at *
 have zw25 := d25.size
 refine dt 0 rfl rfl rfl rfl s25 (fun _ hS => px_load rfl ((f19.chg hS (by omega)).loadA (vs := [.bool (ng x1), va1, vd1]) (look_lit rfl) Tryz.isAgg38 Tryz.sizeOf38)) ?_
 refine dt 1 rfl rfl rfl rfl s25 (fun _ hS => px_field rfl xfld38x1) ?_
 refine dt 2 rfl rfl rfl rfl s25 (fun _ hS => px_load rfl ((f20.chg hS (by omega)).load1 rfl Tryz.isAgg28)) ?_
 refine dt 4 rfl rfl rfl rfl s25 (fun _ hS => px_load rfl ((f20.chg hS (by omega)).loadA (vs := [.bool (ng x2), va2, vd2]) (look_lit rfl) Tryz.isAgg38 Tryz.sizeOf38)) ?_
 refine dt 5 rfl rfl rfl rfl s25 (fun _ hS => px_field rfl xfld38x1) ?_
 refine dt 6 rfl rfl rfl rfl s25 (fun _ hS => px_load rfl ((f19.chg hS (by omega)).load1 rfl Tryz.isAgg28)) ?_
 refine dx_eff 3 rfl (by kernel_rfl) ?_
 have f26 := (f10.ext c17).ext d25
 have f27 := (f12.ext c17).ext d25
 have f28 := (f16.ext c17).ext d25
 refine sx_call rfl rfl Tryz.call34 (c_ratNum f26 f27 f28 (by omega) (by omega)) (fun v29 w29 p29 => ?_)
 obtain ⟨s29, rfl, os_29, c29⟩ := p29
 have zw29 := c29.size
 have s30 : Chg 0 0 w17 w29 := (d25.t c29)
 refine wl_nil ?_
 refine dx_next s30 ?_
 refine dx_eff 7 rfl (by kernel_rfl) ?_
 have f32 := ((f14.ext c17).ext d25).ext c29
 have f33 := f28.ext c29
 have f34 := f27.ext c29
 refine sx_call rfl rfl Tryz.call34 (c_ratNum f32 f33 f34 (by omega) (by omega)) (fun v35 w35 p35 => ?_)
 obtain ⟨s35, rfl, os_35, c35⟩ := p35
 have zw35 := c35.size
 have s36 : Chg 0 0 w17 w35 := ((d25.t c29).t c35)
 refine wl_nil ?_
 refine dx_next s36 ?_
 refine dx_eff 8 rfl (by kernel_rfl) ?_
 have f37 := os_29.ext c35
 refine sx_call rfl rfl Tryz.call33 (c_intCmp f37.sv os_35.sv (by rw [a1]; omega) (by rw [a2]; omega)) (fun v38 w38 p38 => ?_)
 obtain ⟨rfl, c38⟩ := p38
 have zw38 := c38.size
 have s39 : Chg 0 0 w17 w38 := (((d25.t c29).t c35).t c38)
 refine wl_nil ?_
 refine dx_next s39 ?_
 refine dt 9 rfl rfl rfl rfl s39 (fun _ hS => px_assign rfl) ?_
 refine dx_done (by kernel_rfl) ?_
 refine q_n (k18 _ _ ?_)
 refine sx_sub (Sub.c 4 rfl .nil) ?_
 refine sx_retc ?_
 refine sx_ret1 Tryz.results11 rfl ?_
 exact ⟨rfl, ((((((cb2.t cb4).t c17).t d25).t c29).t c35).t c38)⟩

end Go.Proofs.YtlnemcbdbehehaaGreatDoor
