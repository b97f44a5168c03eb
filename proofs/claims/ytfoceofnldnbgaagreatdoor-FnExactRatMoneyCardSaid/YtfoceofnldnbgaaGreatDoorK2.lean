/- Contracts of functions of the program: what each call returns, and that it changes nothing that was. Conditions: as each says. -/
import Derived.Test.YtfoceofnldnbgaaGreatDoorTy
import Derived.Test.YtfoceofnldnbgaaGreatDoorNatL
import Derived.Test.YtfoceofnldnbgaaGreatDoorRm
import Derived.Test.YtfoceofnldnbgaaGreatDoorK1
set_option linter.unusedVariables false
set_option linter.unusedSimpArgs false
namespace Go.Proofs.YtfoceofnldnbgaaGreatDoor
open Go Go.RowKit
set_option maxRecDepth 100000
theorem c_iIntOk {w : World} {n1 : Bool} {v1 : Value} {lv1 uv1 : Nat} {z1 : List Int} (hv1 : Sl w lv1 uv1 v1 (z1)) (h63 : z1.length ≤ 4611686018427387904) :
  Ret Tryz.prog 54 [.agg #[.bool n1, v1]] w fun v w' => v = .bool (decide (IOk n1 z1)) ∧ Chg 0 0 w w' := by
 have hv10 := hv1.fit
 refine sx_enter Tryz.func54 rfl Tryz.ntmps54 (Nat.le_of_ble_eq_true rfl) ?_
 refine sx_seq fun K1 k1 => sx_region ?_
 refine sx_box [.bool n1, v1] rfl rfl rfl (fun b2 w3 eb2 sb2 fb2 cb2 => ?_)
 have zw3 := cb2.size
 refine sa rfl rfl rfl rfl ?_
 refine wl_nil (q_n (k1 _ _ ?_))
 refine sx_seq fun K4 k4 => sx_region ?_
 refine sx_pure rfl rfl rfl (px_field rfl xfld28x1) ?_
 refine sx_pure rfl rfl rfl (px_load rfl (fb2.load1 rfl Tryz.isAgg22)) ?_
 have f5 := hv10.ext cb2
 refine sx_call rfl rfl Tryz.call69 (c_iNatOk f5 (by omega)) (fun v6 w6 p6 => ?_)
 obtain ⟨rfl, c6⟩ := p6
 have zw6 := c6.size
 refine sm rfl rfl rfl rfl ?_
 refine sx_tmpP (t := 6) rfl (fun h10 => ?_) (fun h10 => ?_)
 ·
  refine sx_guardT rfl rfl rfl ?_
  refine sx_pure rfl rfl rfl (px_field rfl xfld28x0) ?_
  refine sx_guardT rfl rfl rfl ?_
  have f7 := fb2.ext c6
  refine sx_pure rfl rfl rfl (px_load rfl (f7.load1 rfl Tryz.isAgg4)) ?_
  refine sx_guardT rfl rfl rfl ?_
  refine sx_pure rfl rfl rfl (px_not rfl) ?_
  refine sx_guardT rfl rfl rfl ?_
  refine sm rfl rfl rfl rfl ?_
  refine sx_tmpB (t := 10) rfl (fun h10x1 => ?_) (fun h10x1 => ?_)
  ·
   refine sx_guardF rfl rfl rfl rfl rfl rfl ?_
   refine sx_guardF rfl rfl rfl rfl rfl rfl ?_
   refine sx_guardF rfl rfl rfl rfl rfl rfl ?_
   refine sx_guardF rfl rfl rfl rfl rfl rfl ?_
   refine sx_guardT rfl rfl rfl ?_
   refine sx_pure rfl rfl rfl (px_pick rfl rfl) ?_
   refine sx_pure rfl rfl rfl (px_pick rfl rfl) ?_
   refine sa rfl rfl rfl rfl ?_
   refine wl_nil (q_n (k4 _ _ ?_))
   refine sx_sub (Sub.cons (t := 2) rfl (.nil)) ?_
   refine sx_retc ?_
   refine sx_ret1 Tryz.results54 rfl ?_
   exact ⟨(by first | exact bTrue (by grind [IOk]) | exact bFalse (by grind [IOk]) | exact bIff (by grind [IOk])), (cb2.t c6)⟩
  ·
   refine sx_guardT rfl rfl rfl ?_
   refine sx_pure rfl rfl rfl (px_field rfl xfld28x1) ?_
   refine sx_guardT rfl rfl rfl ?_
   refine sx_pure rfl rfl rfl (px_load rfl (f7.load1 rfl Tryz.isAgg22)) ?_
   refine sx_guardT rfl rfl rfl ?_
   have f8 := f5.ext c6
   refine sx_pure rfl rfl rfl (px_len rfl Tryz.underlying22 f8) ?_
   refine sx_guardT rfl rfl rfl ?_
   refine sx_pure rfl rfl rfl (px_gt rfl rfl) ?_
   refine sx_guardT rfl rfl rfl ?_
   refine sx_pure rfl rfl rfl (px_pick rfl rfl) ?_
   refine sx_pure rfl rfl rfl (px_pick rfl rfl) ?_
   refine sa rfl rfl rfl rfl ?_
   refine wl_nil (q_n (k4 _ _ ?_))
   refine sx_sub (Sub.cons (t := 2) rfl (.nil)) ?_
   refine sx_retc ?_
   refine sx_ret1 Tryz.results54 rfl ?_
   exact ⟨(by first | exact bTrue (by grind [IOk]) | exact bFalse (by grind [IOk]) | exact bIff (by grind [IOk])), (cb2.t c6)⟩
 ·
  refine sx_guardF rfl rfl rfl rfl rfl rfl ?_
  refine sx_guardF rfl rfl rfl rfl rfl rfl ?_
  refine sx_guardF rfl rfl rfl rfl rfl rfl ?_
  refine sx_guardF rfl rfl rfl rfl rfl rfl ?_
  refine sx_guardFU rfl rfl rfl rfl rfl ?_
  refine sx_guardFU rfl rfl rfl rfl rfl ?_
  refine sx_guardFU rfl rfl rfl rfl rfl ?_
  refine sx_guardFU rfl rfl rfl rfl rfl ?_
  refine sx_guardF rfl rfl rfl rfl rfl rfl ?_
  refine sx_pure rfl rfl rfl (px_pick rfl rfl) ?_
  refine sa rfl rfl rfl rfl ?_
  refine wl_nil (q_n (k4 _ _ ?_))
  refine sx_sub (Sub.cons (t := 2) rfl (.nil)) ?_
  refine sx_retc ?_
  refine sx_ret1 Tryz.results54 rfl ?_
  exact ⟨(by first | exact bTrue (by grind [IOk]) | exact bFalse (by grind [IOk]) | exact bIff (by grind [IOk])), (cb2.t c6)⟩

theorem c_natCmp {w : World} {va : Value} {lva uva : Nat} {zs : List Int} {vb : Value} {lvb uvb : Nat} {ys : List Int} (hva : Sl w lva uva va (zs)) (hvb : Sl w lvb uvb vb (ys)) (h63 : zs.length ≤ 4611686018427387904 ∧ ys.length ≤ 4611686018427387904) :
  Ret Tryz.prog 73 [va, vb] w fun v w' => v = .int .i64 (cmpL zs ys) ∧ Chg 0 0 w w' := by
 have hva0 := hva.fit
 have hvb0 := hvb.fit
 have zs0 : zs.drop zs.length = [] := by simp
 have ys0 : ys.drop ys.length = [] := by simp
 refine sx_enter Tryz.func73 rfl Tryz.ntmps73 (Nat.le_of_ble_eq_true rfl) ?_
 refine sx_seq fun K1 k1 => sx_region ?_
 refine sa rfl rfl rfl rfl ?_
 refine wl_nil (q_n (k1 _ _ ?_))
 refine sx_seq fun K2 k2 => ?_
 refine sx_seq fun K3 k3 => sx_region ?_
 refine sm rfl rfl rfl rfl ?_
 refine sx_pure rfl rfl rfl (px_len rfl Tryz.underlying22 hva0) ?_
 refine sm rfl rfl rfl rfl ?_
 refine sx_pure rfl rfl rfl (px_len rfl Tryz.underlying22 hvb0) ?_
 refine sx_pure rfl rfl rfl (px_ne rfl rfl) ?_
 refine wl_nil (q_n (k3 _ _ ?_))
 refine sx_condP rfl (fun h76 => ?_) (fun h76 => ?_)
 ·
  refine sx_seq fun K4 k4 => ?_
  refine sx_seq fun K5 k5 => sx_region ?_
  refine sm rfl rfl rfl rfl ?_
  refine sx_pure rfl rfl rfl (px_len rfl Tryz.underlying22 hva0) ?_
  refine sm rfl rfl rfl rfl ?_
  refine sx_pure rfl rfl rfl (px_len rfl Tryz.underlying22 hvb0) ?_
  refine sx_pure rfl rfl rfl (px_lt rfl rfl) ?_
  refine wl_nil (q_n (k5 _ _ ?_))
  refine sx_condP rfl (fun h77 => ?_) (fun h77 => ?_)
  ·
   refine sx_seq fun K6 k6 => sx_region ?_
   refine sa rfl rfl rfl rfl ?_
   refine wl_nil (q_n (k6 _ _ ?_))
   refine sx_retc ?_
   refine q_r (q_r (sx_ret1 Tryz.results73 rfl ?_))
   exact ⟨iEq (cmpL_short (by omega)).symm, (Chg.refl 0 0 _)⟩
  ·
   refine sx_skip ?_
   refine q_n (k4 _ _ ?_)
   refine sx_seq fun K7 k7 => sx_region ?_
   refine sa rfl rfl rfl rfl ?_
   refine wl_nil (q_n (k7 _ _ ?_))
   refine sx_retc ?_
   refine q_r (sx_ret1 Tryz.results73 rfl ?_)
   exact ⟨iEq (cmpL_long (by omega)).symm, (Chg.refl 0 0 _)⟩
 ·
  refine sx_skip ?_
  refine q_n (k2 _ _ ?_)
  refine sx_seq fun K8 k8 => ?_
  refine sx_seq fun K9 k9 => sx_region ?_
  refine sm rfl rfl rfl rfl ?_
  refine sx_pure rfl rfl rfl (px_len rfl Tryz.underlying22 hva0) ?_
  refine sx_pure rfl rfl rfl (px_sub rfl rfl (by omega)) ?_
  refine sa rfl rfl rfl rfl ?_
  refine wl_nil (q_n (k9 _ _ ?_))
  refine sx_block ?_
  have e00 : zs.length = ys.length := by omega
  have he0 : zs.drop zs.length = ys.drop zs.length := by rw [zs0, e00, ys0]
  refine sx_loop (fun mm aa w' => ∃ (k : Nat), Agr 41 [(0, va), (1, vb), (5, .int .i64 (↑k - 1))] aa ∧ Chg 0 0 w w' ∧ (mm = k) ∧ (k ≤ zs.length) ∧ (zs.drop k = ys.drop k)) (_) (fun a ha => ⟨zs.length, ha.sub (Sub.cons (t := 0) rfl (.cons (t := 1) rfl (.cons (t := 5) (look_int (t := 5) rfl (by first | omega | simp)) (.nil)))), Chg.refl _ _ _, rfl, by omega, he0⟩) ?_
  rintro mm aa wl10 ⟨k, hAwl10, cwl10, hm, hk, he⟩
  refine (show cw Tryz.prog 41 _ _ _ wl10 from ?_) aa hAwl10
  clear hAwl10
  have zwl10 := cwl10.size
  have hl : zs.length = ys.length := by omega
  refine sx_seq fun K11 k11 => ?_
  refine sx_seq fun K12 k12 => sx_region ?_
  refine sm rfl rfl rfl rfl ?_
  refine sx_pure rfl rfl rfl (px_ge rfl rfl) ?_
  refine wl_nil (q_n (k12 _ _ ?_))
  refine sx_condP rfl (fun h82 => ?_) (fun h82 => ?_)
  ·
   refine sx_skip ?_
   refine q_n (k11 _ _ ?_)
   refine sx_seq fun K13 k13 => ?_
   refine sx_block ?_
   refine sx_seq fun K14 k14 => ?_
   have f15 := hva0.ext cwl10
   have f16 := hvb0.ext cwl10
   refine dx_region (fun w' => Chg 0 0 wl10 w') (by kernel_rfl) (Chg.zero (Chg.drew _)) ?_
   have d17 := Chg.drew wl10
   have s17 : Chg 0 0 wl10 (World.drew wl10) := Chg.zero (Chg.drew _)
   have y17 : (World.drew wl10).heap.size = wl10.heap.size := rfl
   generalize World.drew wl10 = w17 at *
   have zw17 := d17.size
   refine dx_take 0 rfl rfl rfl rfl (by kernel_rfl) (by kernel_rfl) (by kernel_rfl) s17 (fun _ hS => px_move rfl) ?_
   refine dx_take 1 rfl rfl rfl rfl (by kernel_rfl) (by kernel_rfl) (by kernel_rfl) s17 (fun _ hS => px_move rfl) ?_
   refine dx_take 2 rfl rfl rfl rfl (by kernel_rfl) (by kernel_rfl) (by kernel_rfl) s17 (fun _ hS => px_index1 (j := (k - 1)) rfl rfl (by omega) Tryz.underlying22 Tryz.sizeOf3 ((f15).chg hS (by omega)) (by omega)) ?_
   refine dx_take 3 rfl rfl rfl rfl (by kernel_rfl) (by kernel_rfl) (by kernel_rfl) s17 (fun _ hS => px_load rfl (((f15).chg hS (by omega)).load1 (at_int (by omega)) Tryz.isAgg3)) ?_
   refine dx_take 4 rfl rfl rfl rfl (by kernel_rfl) (by kernel_rfl) (by kernel_rfl) s17 (fun _ hS => px_move rfl) ?_
   refine dx_take 5 rfl rfl rfl rfl (by kernel_rfl) (by kernel_rfl) (by kernel_rfl) s17 (fun _ hS => px_move rfl) ?_
   refine dx_take 6 rfl rfl rfl rfl (by kernel_rfl) (by kernel_rfl) (by kernel_rfl) s17 (fun _ hS => px_index1 (j := (k - 1)) rfl rfl (by omega) Tryz.underlying22 Tryz.sizeOf3 ((f16).chg hS (by omega)) (by omega)) ?_
   refine dx_take 7 rfl rfl rfl rfl (by kernel_rfl) (by kernel_rfl) (by kernel_rfl) s17 (fun _ hS => px_load rfl (((f16).chg hS (by omega)).load1 (at_int (by omega)) Tryz.isAgg3)) ?_
   refine dx_take 8 rfl rfl rfl rfl (by kernel_rfl) (by kernel_rfl) (by kernel_rfl) s17 (fun _ hS => px_ne rfl rfl) ?_
   refine dx_done (by kernel_rfl) ?_
   refine q_n (k14 _ _ ?_)
   refine sx_condP rfl (fun h83 => ?_) (fun h83 => ?_)
   ·
    refine sx_seq fun K18 k18 => ?_
    refine sx_seq fun K19 k19 => ?_
    have f20 := f15.ext d17
    have f21 := f16.ext d17
    refine dx_region (fun w' => Chg 0 0 w17 w') (by kernel_rfl) (Chg.zero (Chg.drew _)) ?_
    have d22 := Chg.drew w17
    have s22 : Chg 0 0 w17 (World.drew w17) := Chg.zero (Chg.drew _)
    have y22 : (World.drew w17).heap.size = w17.heap.size := rfl
    generalize World.drew w17 = w22 at *
    have zw22 := d22.size
    refine dx_take 0 rfl rfl rfl rfl (by kernel_rfl) (by kernel_rfl) (by kernel_rfl) s22 (fun _ hS => px_move rfl) ?_
    refine dx_take 1 rfl rfl rfl rfl (by kernel_rfl) (by kernel_rfl) (by kernel_rfl) s22 (fun _ hS => px_move rfl) ?_
    refine dx_take 2 rfl rfl rfl rfl (by kernel_rfl) (by kernel_rfl) (by kernel_rfl) s22 (fun _ hS => px_index1 (j := (k - 1)) rfl rfl (by omega) Tryz.underlying22 Tryz.sizeOf3 ((f20).chg hS (by omega)) (by omega)) ?_
    refine dx_take 3 rfl rfl rfl rfl (by kernel_rfl) (by kernel_rfl) (by kernel_rfl) s22 (fun _ hS => px_load rfl (((f20).chg hS (by omega)).load1 (at_int (by omega)) Tryz.isAgg3)) ?_
    refine dx_take 4 rfl rfl rfl rfl (by kernel_rfl) (by kernel_rfl) (by kernel_rfl) s22 (fun _ hS => px_move rfl) ?_
    refine dx_take 5 rfl rfl rfl rfl (by kernel_rfl) (by kernel_rfl) (by kernel_rfl) s22 (fun _ hS => px_move rfl) ?_
    refine dx_take 6 rfl rfl rfl rfl (by kernel_rfl) (by kernel_rfl) (by kernel_rfl) s22 (fun _ hS => px_index1 (j := (k - 1)) rfl rfl (by omega) Tryz.underlying22 Tryz.sizeOf3 ((f21).chg hS (by omega)) (by omega)) ?_
    refine dx_take 7 rfl rfl rfl rfl (by kernel_rfl) (by kernel_rfl) (by kernel_rfl) s22 (fun _ hS => px_load rfl (((f21).chg hS (by omega)).load1 (at_int (by omega)) Tryz.isAgg3)) ?_
    refine dx_take 8 rfl rfl rfl rfl (by kernel_rfl) (by kernel_rfl) (by kernel_rfl) s22 (fun _ hS => px_lt rfl rfl) ?_
    refine dx_done (by kernel_rfl) ?_
    refine q_n (k19 _ _ ?_)
    refine sx_sub (Sub.cons (t := 0) rfl (.cons (t := 1) rfl (.cons (t := 5) rfl (.cons (t := 40) rfl (.nil))))) ?_
    refine sx_condP rfl (fun h84 => ?_) (fun h84 => ?_)
    ·
     refine sx_seq fun K23 k23 => sx_region ?_
     refine sa rfl rfl rfl rfl ?_
     refine wl_nil (q_n (k23 _ _ ?_))
     refine sx_retc ?_
     refine q_r (q_br (q_r (q_r (q_br (q_r (sx_ret1 Tryz.results73 rfl ?_))))))
     have hlt := cmpL_lt hl (k := k - 1) (by omega) (by rw [Nat.sub_add_cancel (by omega)]; exact he) (h84)
     exact ⟨iEq hlt.symm, ((cwl10.t d17).t d22)⟩
    ·
     refine sx_skip ?_
     refine q_n (k18 _ _ ?_)
     refine sx_seq fun K24 k24 => sx_region ?_
     refine sa rfl rfl rfl rfl ?_
     refine wl_nil (q_n (k24 _ _ ?_))
     refine sx_retc ?_
     refine q_br (q_r (q_r (q_br (q_r (sx_ret1 Tryz.results73 rfl ?_)))))
     have hlt := cmpL_gt hl (k := k - 1) (by omega) (by rw [Nat.sub_add_cancel (by omega)]; exact he) (by omega)
     exact ⟨iEq hlt.symm, ((cwl10.t d17).t d22)⟩
   ·
    refine sx_skip ?_
    refine q_bn (q_n (k13 _ _ ?_))
    refine sx_region ?_
    refine sm rfl rfl rfl rfl ?_
    refine sx_pure rfl rfl rfl (px_sub rfl rfl (by omega)) ?_
    refine sa rfl rfl rfl rfl ?_
    refine wl_nil ?_
    exact fun a ha => ⟨_, by omega, (k - 1), ha.sub (Sub.cons (t := 0) rfl (.cons (t := 1) rfl (.cons (t := 5) (look_int (t := 5) rfl (by first | omega | simp)) (.nil)))), (cwl10.t d17), rfl, by omega, drop_succ_eq (by omega) (by omega) (by rw [Nat.sub_add_cancel (by omega)]; exact he) (by omega)⟩
  ·
   refine sx_exit ?_
   refine q_e (q_e (q_bx (q_n (k8 _ _ ?_))))
   refine sx_seq fun K25 k25 => sx_region ?_
   refine sa rfl rfl rfl rfl ?_
   refine wl_nil (q_n (k25 _ _ ?_))
   refine sx_retc ?_
   refine sx_ret1 Tryz.results73 rfl ?_
   have e1 : k = 0 := by omega
   subst e1
   have e2 : zs = ys := by simpa using he
   subst e2
   exact ⟨iEq (cmpL_self zs).symm, cwl10⟩

theorem c_natCopy {w : World} {va : Value} {lva uva : Nat} {zs : List Int} (hva : Sl w lva uva va (zs)) (h63 : zs.length ≤ 1048576) :
  Ret Tryz.prog 84 [va] w fun v w' => ∃ s, v = s ∧ OwnI w' w.heap.size w'.heap.size s intT (zs) ∧ Chg 0 0 w w' := by
 have hva0 := hva.fit
 refine sx_enter Tryz.func84 rfl Tryz.ntmps84 (Nat.le_of_ble_eq_true rfl) ?_
 refine sx_seq fun K1 k1 => sx_region ?_
 refine sa rfl rfl rfl rfl ?_
 refine wl_nil (q_n (k1 _ _ ?_))
 refine sx_seq fun K2 k2 => sx_region ?_
 refine sx_lit0 rfl xelt22 (fun s3 ws3 ss3 fs3 cs3 => ?_)
 have zws3 := cs3.size
 refine sm rfl rfl rfl rfl ?_
 have f5 := hva0.ext cs3
 refine sx_append rfl xelt22 rfl rfl fs3 f5 one_int (by omega) (by omega) (by unfold maxLen; omega) (fun a4 w4 fw4 cw4 => ?_)
 have nw4 := Own.norm (f := (Value.int .i64)) (zs := zs) fw4
 have zw4 := cw4.size
 refine sa rfl rfl rfl rfl ?_
 refine wl_nil (q_n (k2 _ _ ?_))
 refine sx_retc ?_
 refine sx_ret1 Tryz.results84 rfl ?_
 have q6 := Chg.step (l := 0) (h := 0) (Chg.zero (l := 0) (h := 0) cs3) cw4 (by omega)
 exact ⟨_, rfl, Own.mono nw4 (by omega) (by omega), q6⟩

theorem c_trim {w : World} {va : Value} {lva uva : Nat} {zs : List Int} (hva : OwnI w lva uva va intT (zs)) (hz : Lm zs) (h63 : zs.length ≤ 1000000) :
  Ret Tryz.prog 97 [va] w fun v w' => ∃ s, v = s ∧ OwnI w' (lva) (uva) s intT (dg (vl zs)) ∧ Chg 0 0 w w' := by
 refine sx_enter Tryz.func97 rfl Tryz.ntmps97 (Nat.le_of_ble_eq_true rfl) ?_
 refine sx_seq fun K1 k1 => sx_region ?_
 refine sa rfl rfl rfl rfl ?_
 refine wl_nil (q_n (k1 _ _ ?_))
 refine sx_seq fun K2 k2 => ?_
 refine sx_block ?_
 refine sx_loop (fun mm aa w' => ∃ (k : Nat) (s : Value), Agr 21 [(0, s)] aa ∧ Chg 0 0 w w' ∧ Own w' lva uva s intT ((zs.take k).length) 1 ((zs.take k).map (Value.int .i64)) ∧ (mm = k) ∧ (k ≤ zs.length) ∧ (vl (zs.take k) = vl zs)) (_) (fun a ha => ⟨zs.length, va, ha.sub (Sub.cons (t := 0) rfl (.nil)), Chg.refl _ _ _, (by rw [List.take_length]; exact hva), rfl, by omega, vl_take_all zs⟩) ?_
 rintro mm aa wl3 ⟨k, s, hAwl3, cwl3, hs_s, hm, hk, hv⟩
 refine (show cw Tryz.prog 21 _ _ _ wl3 from ?_) aa hAwl3
 clear hAwl3
 have zwl3 := cwl3.size
 have hlt : (zs.take k).length = k := by rw [List.length_take]; omega
 refine sx_seq fun K4 k4 => ?_
 refine sx_seq fun K5 k5 => sx_region ?_
 refine sm rfl rfl rfl rfl ?_
 refine sx_pure rfl rfl rfl (px_len rfl Tryz.underlying22 hs_s.sv) ?_
 refine sx_pure rfl rfl rfl (px_gt rfl rfl) ?_
 refine sm rfl rfl rfl rfl ?_
 refine sx_tmpP (t := 6) rfl (fun h29 => ?_) (fun h29 => ?_)
 ·
  refine sx_guardT rfl rfl rfl ?_
  refine sm rfl rfl rfl rfl ?_
  refine sx_guardT rfl rfl rfl ?_
  refine sm rfl rfl rfl rfl ?_
  refine sx_guardT rfl rfl rfl ?_
  refine sx_pure rfl rfl rfl (px_len rfl Tryz.underlying22 hs_s.sv) ?_
  refine sx_guardT rfl rfl rfl ?_
  refine sx_pure rfl rfl rfl (px_sub rfl rfl (by omega)) ?_
  refine sx_guardT rfl rfl rfl ?_
  refine sx_pure rfl rfl rfl (px_index1 (j := (k - 1)) rfl rfl (by omega) Tryz.underlying22 Tryz.sizeOf3 hs_s.sv (by omega)) ?_
  refine sx_guardT rfl rfl rfl ?_
  refine sx_pure rfl rfl rfl (px_load rfl (hs_s.sv.load1 (at_int (by omega)) Tryz.isAgg3)) ?_
  refine sx_guardT rfl rfl rfl ?_
  refine sx_pure rfl rfl rfl (px_eq rfl rfl) ?_
  refine sx_pure rfl rfl rfl (px_pick rfl rfl) ?_
  refine wl_nil (q_n (k5 _ _ ?_))
  refine sx_condP rfl (fun h29x1 => ?_) (fun h29x1 => ?_)
  ·
   refine sx_skip ?_
   refine q_n (k4 _ _ ?_)
   refine sx_block ?_
   refine sx_region ?_
   refine sm rfl rfl rfl rfl ?_
   refine sm rfl rfl rfl rfl ?_
   refine sx_pure rfl rfl rfl (px_len rfl Tryz.underlying22 hs_s.sv) ?_
   refine sx_pure rfl rfl rfl (px_sub rfl rfl (by omega)) ?_
   refine sx_pure rfl rfl rfl (px_sliceTo (h := (k - 1)) rfl rfl (by omega) Tryz.underlying22 Tryz.sizeOf3 hs_s.sv (by omega)) ?_
   refine sa rfl rfl rfl rfl ?_
   refine wl_nil ?_
   exact q_bn (fun a ha => ⟨_, by omega, (k - 1), (vtake s (k - 1)), ha.sub (Sub.cons (t := 0) rfl (.nil)), cwl3, (by have hh := (Own.takeI hs_s (h := (k - 1)) (by omega)); rwa [List.take_take, Nat.min_eq_left (by omega)] at hh), rfl, by omega, trim_step (by omega) hk h29x1 hv⟩)
  ·
   refine sx_exit ?_
   refine q_e (q_e (q_bx (q_n (k2 _ _ ?_))))
   refine sx_seq fun K6 k6 => sx_region ?_
   refine sm rfl rfl rfl rfl ?_
   refine sa rfl rfl rfl rfl ?_
   refine wl_nil (q_n (k6 _ _ ?_))
   refine sx_sub (Sub.cons (t := 2) rfl (.nil)) ?_
   refine sx_retc ?_
   refine sx_ret1 Tryz.results97 rfl ?_
   have hd := trim_done hz hk hv (by first | exact .inl (by omega) | exact .inr (by assumption))
   rw [← hd]
   exact ⟨_, rfl, hs_s, cwl3⟩
 ·
  refine sx_guardF rfl rfl rfl rfl rfl rfl ?_
  refine sx_guardF rfl rfl rfl rfl rfl rfl ?_
  refine sx_guardF rfl rfl rfl rfl rfl rfl ?_
  refine sx_guardF rfl rfl rfl rfl rfl rfl ?_
  refine sx_guardF rfl rfl rfl rfl rfl rfl ?_
  refine sx_guardF rfl rfl rfl rfl rfl rfl ?_
  refine sx_guardF rfl rfl rfl rfl rfl rfl ?_
  refine sx_pure rfl rfl rfl (px_pick rfl rfl) ?_
  refine wl_nil (q_n (k5 _ _ ?_))
  refine sx_condF rfl ?_
  refine sx_exit ?_
  refine q_e (q_e (q_bx (q_n (k2 _ _ ?_))))
  refine sx_seq fun K7 k7 => sx_region ?_
  refine sm rfl rfl rfl rfl ?_
  refine sa rfl rfl rfl rfl ?_
  refine wl_nil (q_n (k7 _ _ ?_))
  refine sx_sub (Sub.cons (t := 2) rfl (.nil)) ?_
  refine sx_retc ?_
  refine sx_ret1 Tryz.results97 rfl ?_
  have hd := trim_done hz hk hv (by first | exact .inl (by omega) | exact .inr (by assumption))
  rw [← hd]
  exact ⟨_, rfl, hs_s, cwl3⟩

theorem c_natSmall {w : World} {va : Value} {lva uva : Nat} {m : Nat} {d : Int} (hva : Sl w lva uva va (dg m)) (hbm : (dg m).length ≤ 1000) (hd : 1 ≤ d ∧ d ≤ 999999999) :
  Ret Tryz.prog 94 [va, .int .i64 d] w fun v w' => ∃ s, v = .tuple #[s, .int .i64 (((m % (d).toNat : Nat) : Int))] ∧ OwnI w' w.heap.size w'.heap.size s intT (dg (m / (d).toNat)) ∧ Chg 0 0 w w' := by
 have hva0 := hva.fit
 refine sx_enter Tryz.func94 rfl Tryz.ntmps94 (Nat.le_of_ble_eq_true rfl) ?_
 refine sx_seq fun K1 k1 => sx_region ?_
 refine sa rfl rfl rfl rfl ?_
 refine sa rfl rfl rfl rfl ?_
 refine wl_nil (q_n (k1 _ _ ?_))
 refine sx_seq fun K2 k2 => sx_region ?_
 refine sm rfl rfl rfl rfl ?_
 refine sx_pure rfl rfl rfl (px_len rfl Tryz.underlying22 hva0) ?_
 refine sx_make (c := (dg m).length) rfl xelt22 (rfl) (rfl) (by omega) (by unfold maxLen; omega) (fun s3 ws3 fs3 cs3 ls3 => ?_)
 have ns3 := fs3.made
 have zws3 := cs3.size
 refine sa rfl rfl rfl rfl ?_
 refine wl_nil (q_n (k2 _ _ ?_))
 refine sx_seq fun K4 k4 => sx_region ?_
 refine sa rfl rfl rfl rfl ?_
 refine wl_nil (q_n (k4 _ _ ?_))
 refine sx_seq fun K5 k5 => ?_
 refine sx_seq fun K6 k6 => sx_region ?_
 refine sm rfl rfl rfl rfl ?_
 have f7 := hva0.ext cs3
 refine sx_pure rfl rfl rfl (px_len rfl Tryz.underlying22 f7) ?_
 refine sx_pure rfl rfl rfl (px_sub rfl rfl (by omega)) ?_
 refine sa rfl rfl rfl rfl ?_
 refine wl_nil (q_n (k6 _ _ ?_))
 refine sx_block ?_
 refine sx_loop (fun mm aa w' => ∃ (k : Nat) (os : List Int) (r : Int), Agr 38 [(0, va), (1, .int .i64 d), (6, s3), (7, .int .i64 r), (8, .int .i64 (↑k - 1))] aa ∧ Chg w.heap.size ws3.heap.size ws3 w' ∧ Own w' w.heap.size ws3.heap.size s3 intT os.length 1 (os.map (Value.int .i64)) ∧ (mm = k) ∧ (k ≤ (dg m).length) ∧ (os.length = (dg m).length) ∧ (Lm os) ∧ (0 ≤ r ∧ r < d) ∧ (vl ((dg m).drop k) = d.toNat * vl (os.drop k) + r.toNat)) (_) (fun a ha => ⟨(dg m).length, List.replicate (dg m).length 0, 0, ha.sub (Sub.cons (t := 0) rfl (.cons (t := 1) rfl (.cons (t := 6) rfl (.cons (t := 7) (look_int (t := 7) rfl (by first | omega | simp)) (.cons (t := 8) (look_int (t := 8) rfl (by first | omega | simp)) (.nil)))))), Chg.refl _ _ _, ns3, rfl, by omega, by simp, Lm.replicate _, by omega, by simp [vl]⟩) ?_
 rintro mm aa wl8 ⟨k, os, r, hAwl8, cwl8, hs_s3, hm, hk, hos, hlm, hr, hv⟩
 refine (show cw Tryz.prog 38 _ _ _ wl8 from ?_) aa hAwl8
 clear hAwl8
 have zwl8 := cwl8.size
 have am := (Lm_dg m).getD (k - 1)
 have hq := small_q hr.1 hr.2 am.1 am.2
 refine sx_seq fun K9 k9 => ?_
 refine sx_seq fun K10 k10 => sx_region ?_
 refine sm rfl rfl rfl rfl ?_
 refine sx_pure rfl rfl rfl (px_ge rfl rfl) ?_
 refine wl_nil (q_n (k10 _ _ ?_))
 refine sx_condP rfl (fun h7 => ?_) (fun h7 => ?_)
 ·
  refine sx_skip ?_
  refine q_n (k9 _ _ ?_)
  refine sx_seq fun K11 k11 => ?_
  refine sx_block ?_
  refine sx_seq fun K12 k12 => sx_region ?_
  refine sm rfl rfl rfl rfl ?_
  refine sx_pure rfl rfl rfl (px_mul rfl rfl (by omega)) ?_
  refine sm rfl rfl rfl rfl ?_
  refine sm rfl rfl rfl rfl ?_
  have f13 := f7.chg cwl8 (by omega)
  refine sx_pure rfl rfl rfl (px_index1 (j := (k - 1)) rfl rfl (by omega) Tryz.underlying22 Tryz.sizeOf3 f13 (by omega)) ?_
  refine sx_pure rfl rfl rfl (px_load rfl (f13.load1 (at_int (by omega)) Tryz.isAgg3)) ?_
  refine sx_pure rfl rfl rfl (px_add rfl rfl (by omega)) ?_
  refine sa rfl rfl rfl rfl ?_
  refine wl_nil (q_n (k12 _ _ ?_))
  refine sx_seq fun K14 k14 => sx_region ?_
  refine sm rfl rfl rfl rfl ?_
  refine sm rfl rfl rfl rfl ?_
  refine sm rfl rfl rfl rfl ?_
  refine sm rfl rfl rfl rfl ?_
  refine sx_pure rfl rfl rfl (px_quo rfl rfl (by omega) (by omega) (by omega)) ?_
  refine sx_pure rfl rfl rfl (px_index1 (j := (k - 1)) rfl rfl (by omega) Tryz.underlying22 Tryz.sizeOf3 hs_s3.sv (by omega)) ?_
  refine sx_storeO rfl rfl hs_s3 (by first | omega | (simp only [List.length_map]; omega)) Tryz.sizeOf3 rfl (fun w15 sw15 fw15 cw15 => ?_)
  have zw15 := cw15.size
  have nw15 := fw15.set
  refine wl_nil (q_n (k14 _ _ ?_))
  refine sx_sub (Sub.cons (t := 0) rfl (.cons (t := 1) rfl (.cons (t := 6) rfl (.cons (t := 7) rfl (.cons (t := 8) rfl (.nil)))))) ?_
  refine sx_region ?_
  refine sm rfl rfl rfl rfl ?_
  refine sm rfl rfl rfl rfl ?_
  refine sx_pure rfl rfl rfl (px_rem rfl rfl (by omega) (by omega)) ?_
  refine sa rfl rfl rfl rfl ?_
  refine wl_nil ?_
  refine q_bn (q_n (k11 _ _ ?_))
  refine sx_region ?_
  refine sm rfl rfl rfl rfl ?_
  refine sx_pure rfl rfl rfl (px_sub rfl rfl (by omega)) ?_
  refine sa rfl rfl rfl rfl ?_
  refine wl_nil ?_
  have q16 := Chg.step (l := w.heap.size) (h := ws3.heap.size) cwl8 cw15 (by omega)
  have hst := small_step (X := ((r * 1000000000) + ((dg m).getD (k - 1) 0))) (by omega) (by omega) (by omega) hr am rfl hv
  exact fun a ha => ⟨_, by omega, (k - 1), ((os).set (k - 1) (((r * 1000000000) + ((dg m).getD (k - 1) 0)) / d)), (((r * 1000000000) + ((dg m).getD (k - 1) 0)) % d), ha.sub (Sub.cons (t := 0) rfl (.cons (t := 1) rfl (.cons (t := 6) rfl (.cons (t := 7) (look_int (t := 7) rfl (by first | omega | simp)) (.cons (t := 8) (look_int (t := 8) rfl (by first | omega | simp)) (.nil)))))), q16, (nw15.mono (by omega) (by omega)), rfl, by omega, by simpa using hos, hlm.set _ hq.1 hq.2.1, hq.2.2, hst⟩
 ·
  refine sx_exit ?_
  refine q_e (q_e (q_bx (q_n (k5 _ _ ?_))))
  refine sx_seq fun K17 k17 => sx_region ?_
  refine sm rfl rfl rfl rfl ?_
  refine sx_call rfl rfl Tryz.call97 (c_trim hs_s3 (by assumption) (by first | omega | (simp only [List.length_append, List.length_set, List.length_replicate, List.length_cons, List.length_nil] at *; omega))) (fun v18 w18 p18 => ?_)
  obtain ⟨s18, rfl, os_18, c18⟩ := p18
  have zw18 := c18.size
  refine sm rfl rfl rfl rfl ?_
  refine sa rfl rfl rfl rfl ?_
  refine sa rfl rfl rfl rfl ?_
  refine wl_nil (q_n (k17 _ _ ?_))
  refine sx_retc ?_
  refine sx_ret2 Tryz.results94 rfl rfl ?_
  have e0 : k = 0 := by omega
  subst e0
  have he := div_end (m := m) (d := d.toNat) (v := vl os) (r := r.toNat) (by rw [List.drop_zero, List.drop_zero, vl_dg] at hv; exact hv) (show r.toNat < d.toNat by omega)
  have hr2 := os_18
  rw [he.1] at hr2
  have er : r = ((m % d.toNat : Nat) : Int) := by omega
  have q19 := Chg.step (l := 0) (h := 0) (Chg.zero (l := 0) (h := 0) cs3) cwl8 (by omega)
  have q20 := Chg.step (l := 0) (h := 0) q19 c18 (by omega)
  exact ⟨_, by rw [er], hr2.mono (by omega) (by omega), q20⟩

theorem c_natOf {w : World} {n : Int} (hn : 0 ≤ n ∧ n ≤ 18446744073709551615) :
  Ret Tryz.prog 79 [.int .u64 n] w fun v w' => ∃ s, v = s ∧ OwnI w' w.heap.size w'.heap.size s intT (dg (n).toNat) ∧ Chg 0 0 w w' := by
 have l0 := len_u64 (n := n) (by omega)
 refine sx_enter Tryz.func79 rfl Tryz.ntmps79 (Nat.le_of_ble_eq_true rfl) ?_
 refine sx_seq fun K1 k1 => sx_region ?_
 refine sa rfl rfl rfl rfl ?_
 refine wl_nil (q_n (k1 _ _ ?_))
 refine sx_seq fun K2 k2 => sx_region ?_
 refine sx_lit0 rfl xelt22 (fun s3 ws3 ss3 fs3 cs3 => ?_)
 have zws3 := cs3.size
 refine sa rfl rfl rfl rfl ?_
 refine wl_nil (q_n (k2 _ _ ?_))
 refine sx_seq fun K4 k4 => ?_
 refine sx_block ?_
 refine sx_loop (fun mm aa w' => ∃ (s : Value) (os : List Int) (m : Int), Agr 16 [(0, .int .u64 m), (3, s)] aa ∧ Chg w.heap.size ws3.heap.size ws3 w' ∧ Own w' w.heap.size w'.heap.size s intT os.length 1 (os.map (Value.int .i64)) ∧ (mm = m.toNat) ∧ (Lm os) ∧ (0 ≤ m ∧ m ≤ n) ∧ (vl os + Bs ^ os.length * m.toNat = n.toNat) ∧ (os.length + (dg m.toNat).length = (dg n.toNat).length) ∧ (os.length = 0 ∨ Bs ^ (os.length - 1) ≤ n.toNat)) (_) (fun a ha => ⟨s3, [], n, ha.sub (Sub.cons (t := 0) rfl (.cons (t := 3) rfl (.nil))), Chg.refl _ _ _, (fs3.mono (by omega) (by omega)), rfl, Lm.nil, by omega, by simp [vl], by simp, .inl rfl⟩) ?_
 rintro mm aa wl5 ⟨s, os, m, hAwl5, cwl5, hs_s, hm, hlm, hb, hv, hln, hl⟩
 refine (show cw Tryz.prog 16 _ _ _ wl5 from ?_) aa hAwl5
 clear hAwl5
 have zwl5 := cwl5.size
 refine sx_seq fun K6 k6 => ?_
 refine sx_seq fun K7 k7 => sx_region ?_
 refine sm rfl rfl rfl rfl ?_
 refine sx_pure rfl rfl rfl (px_gt rfl rfl) ?_
 refine wl_nil (q_n (k7 _ _ ?_))
 refine sx_condP rfl (fun h47 => ?_) (fun h47 => ?_)
 ·
  refine sx_skip ?_
  refine q_n (k6 _ _ ?_)
  refine sx_block ?_
  refine sx_seq fun K8 k8 => sx_region ?_
  refine sm rfl rfl rfl rfl ?_
  refine sm rfl rfl rfl rfl ?_
  refine sx_pure rfl rfl rfl (px_remU rfl rfl (by omega) (by omega)) ?_
  refine sx_pure rfl rfl rfl (px_convI Tryz.underlying90 Tryz.underlying3 rfl (by omega)) ?_
  refine sx_lit1 rfl xelt22 rfl rfl (fun s9 ws9 ss9 fs9 cs9 => ?_)
  have ns9 := Own.norm (f := (Value.int .i64)) (zs := [m % 1000000000]) fs9
  have zws9 := cs9.size
  have f11 := hs_s.ext cs9
  refine sx_append rfl xelt22 rfl rfl f11 ns9.sv one_int (by omega) (by simp only [List.length_cons, List.length_nil]; omega) (by unfold maxLen; simp only [List.length_cons, List.length_nil]; omega) (fun a10 w10 fw10 cw10 => ?_)
  have nw10 := Own.app (f := (Value.int .i64)) (a := os) (b := [m % 1000000000]) fw10
  have zw10 := cw10.size
  refine sa rfl rfl rfl rfl ?_
  refine wl_nil (q_n (k8 _ _ ?_))
  refine sx_region ?_
  refine sm rfl rfl rfl rfl ?_
  refine sx_pure rfl rfl rfl (px_quoU rfl rfl (by omega) (by omega) (by omega)) ?_
  refine sa rfl rfl rfl rfl ?_
  refine wl_nil ?_
  have q12 := Chg.step (l := w.heap.size) (h := ws3.heap.size) cwl5 cs9 (by omega)
  have q13 := Chg.step (l := w.heap.size) (h := ws3.heap.size) q12 cw10 (by omega)
  have hmd := mod_bd (s := m) (by omega)
  have hm0 : m / 1000000000 < m := by omega
  exact q_bn (fun a ha => ⟨_, by omega, a10, (os ++ ([m % 1000000000])), (m / 1000000000), ha.sub (Sub.cons (t := 0) rfl (.cons (t := 3) rfl (.nil))), q13, (nw10.mono (by omega) (by omega)), rfl, hlm.append (Lm.single hmd.1 hmd.2), by omega, of_stepI (by omega) hv, by have h9 := of_ln (m := m) (by omega); simp only [List.length_append, List.length_singleton]; omega, .inr (of_len (by omega) hv)⟩)
 ·
  refine sx_exit ?_
  refine q_e (q_e (q_bx (q_n (k4 _ _ ?_))))
  refine sx_seq fun K14 k14 => sx_region ?_
  refine sm rfl rfl rfl rfl ?_
  refine sa rfl rfl rfl rfl ?_
  refine wl_nil (q_n (k14 _ _ ?_))
  refine sx_retc ?_
  refine sx_ret1 Tryz.results79 rfl ?_
  have hm0 : m = 0 := by omega
  subst hm0
  have hd : os = dg n.toNat := dg_of hlm (by simpa using hv) hl
  subst hd
  have q15 := Chg.step (l := 0) (h := 0) (Chg.zero (l := 0) (h := 0) cs3) cwl5 (by omega)
  exact ⟨_, rfl, (Own.mono hs_s (by omega) (by omega)), q15⟩

theorem c_iNatOf {w : World} {n : Int} (hn : 0 ≤ n ∧ n ≤ 9223372036854775807) :
  Ret Tryz.prog 95 [.int .i64 n] w fun v w' => ∃ s, v = s ∧ OwnI w' w.heap.size w'.heap.size s intT (dg (n).toNat) ∧ Chg 0 0 w w' := by
 refine sx_enter Tryz.func95 rfl Tryz.ntmps95 (Nat.le_of_ble_eq_true rfl) ?_
 refine sx_seq fun K1 k1 => sx_region ?_
 refine sa rfl rfl rfl rfl ?_
 refine wl_nil (q_n (k1 _ _ ?_))
 refine sx_seq fun K2 k2 => ?_
 refine sx_seq fun K3 k3 => sx_region ?_
 refine sm rfl rfl rfl rfl ?_
 refine sx_pure rfl rfl rfl (px_lt rfl rfl) ?_
 refine wl_nil (q_n (k3 _ _ ?_))
 have h56 : ¬ ((n : Int) < 0) := by omega
 refine sx_condPF rfl h56 ?_
 refine sx_skip ?_
 refine q_n (k2 _ _ ?_)
 refine sx_seq fun K4 k4 => sx_region ?_
 refine sm rfl rfl rfl rfl ?_
 refine sx_pure rfl rfl rfl (px_convU Tryz.underlying3 Tryz.underlying90 rfl (by omega)) ?_
 refine sx_call rfl rfl Tryz.call79 (c_natOf (by omega)) (fun v5 w5 p5 => ?_)
 obtain ⟨s5, rfl, os_5, c5⟩ := p5
 have zw5 := c5.size
 refine sa rfl rfl rfl rfl ?_
 refine wl_nil (q_n (k4 _ _ ?_))
 refine sx_retc ?_
 refine sx_ret1 Tryz.results95 rfl ?_
 exact ⟨_, rfl, (Own.mono os_5 (by omega) (by omega)), c5⟩

theorem c_natMul {w : World} {va : Value} {lva uva : Nat} {m : Nat} {vb : Value} {lvb uvb : Nat} {n : Nat} (hva : Sl w lva uva va (dg m)) (hvb : Sl w lvb uvb vb (dg n)) (hbm : (dg m).length ≤ 1000) (hbn : (dg n).length ≤ 1000) :
  Ret Tryz.prog 82 [va, vb] w fun v w' => ∃ s, v = s ∧ OwnI w' w.heap.size w'.heap.size s intT (dg (m * n)) ∧ Chg 0 0 w w' := by
 have hva0 := hva.fit
 have hvb0 := hvb.fit
 refine sx_enter Tryz.func82 rfl Tryz.ntmps82 (Nat.le_of_ble_eq_true rfl) ?_
 refine sx_seq fun K1 k1 => sx_region ?_
 refine sa rfl rfl rfl rfl ?_
 refine wl_nil (q_n (k1 _ _ ?_))
 refine sx_seq fun K2 k2 => sx_region ?_
 refine sm rfl rfl rfl rfl ?_
 refine sx_pure rfl rfl rfl (px_len rfl Tryz.underlying22 hva0) ?_
 refine sm rfl rfl rfl rfl ?_
 refine sx_pure rfl rfl rfl (px_len rfl Tryz.underlying22 hvb0) ?_
 refine sx_pure rfl rfl rfl (px_add rfl rfl (by omega)) ?_
 refine sx_pure rfl rfl rfl (px_add rfl rfl (by omega)) ?_
 refine sx_make (c := (dg m).length + (dg n).length + 1) rfl xelt22 (look_int rfl (by omega)) (look_int rfl (by omega)) (by omega) (by unfold maxLen; omega) (fun s3 ws3 fs3 cs3 ls3 => ?_)
 have ns3 := fs3.made
 have zws3 := cs3.size
 refine sa rfl rfl rfl rfl ?_
 refine wl_nil (q_n (k2 _ _ ?_))
 refine sx_seq fun K4 k4 => ?_
 refine sx_seq fun K5 k5 => sx_region ?_
 refine sm rfl rfl rfl rfl ?_
 have f6 := hva0.ext cs3
 refine sx_pure rfl rfl rfl (px_len rfl Tryz.underlying22 f6) ?_
 refine sm rfl rfl rfl rfl ?_
 refine wl_nil (q_n (k5 _ _ ?_))
 refine sx_block ?_
 refine sx_loop (fun mm aa w' => ∃ (k : Nat) (os : List Int), Agr 79 [(1, vb), (5, s3), (19, va), (20, .int .i64 (↑(dg m).length)), (21, .int .i64 ↑k)] aa ∧ Chg w.heap.size ws3.heap.size ws3 w' ∧ Own w' w.heap.size ws3.heap.size s3 intT os.length 1 (os.map (Value.int .i64)) ∧ (mm = (dg m).length - k) ∧ (k ≤ (dg m).length) ∧ (os.length = (dg m).length + (dg n).length + 1) ∧ (Lm os) ∧ (∀ i, k + (dg n).length ≤ i → os.getD i 0 = 0) ∧ (vl os = vl ((dg m).take k) * n)) (_) (fun a ha => ⟨0, List.replicate ((dg m).length + (dg n).length + 1) 0, ha.sub (Sub.cons (t := 1) rfl (.cons (t := 5) rfl (.cons (t := 19) rfl (.cons (t := 20) (look_int (t := 20) rfl (by first | omega | simp)) (.cons (t := 21) (look_int (t := 21) rfl (by first | omega | simp)) (.nil)))))), Chg.refl _ _ _, (ns3.mono (by omega) (by omega)), rfl, by omega, by simp, Lm.replicate _, fun i _ => zero_rep _ i (Nat.zero_le _), by rw [vl_replicate, List.take_zero]; simp [vl]⟩) ?_
 rintro mm aa wl7 ⟨k, os, hAwl7, cwl7, hs_s3, hm, hk, hos, hlm, hz, hv⟩
 refine (show cw Tryz.prog 79 _ _ _ wl7 from ?_) aa hAwl7
 clear hAwl7
 have zwl7 := cwl7.size
 have am := (Lm_dg m).getD k
 refine sx_seq fun K8 k8 => sx_region ?_
 refine sx_pure rfl rfl rfl (px_lt rfl rfl) ?_
 refine wl_nil (q_n (k8 _ _ ?_))
 refine sx_seq fun K9 k9 => ?_
 refine sx_condP rfl (fun h140 => ?_) (fun h140 => ?_)
 ·
  refine sx_skip ?_
  refine q_n (k9 _ _ ?_)
  refine sx_seq fun K10 k10 => ?_
  refine sx_block ?_
  refine sx_seq fun K11 k11 => sx_region ?_
  refine sm rfl rfl rfl rfl ?_
  have f12 := f6.chg cwl7 (by omega)
  refine sx_pure rfl rfl rfl (px_index1 (j := k) rfl rfl (by omega) Tryz.underlying22 Tryz.sizeOf3 f12 (by first | omega | (simp only [List.length_set]; omega))) ?_
  refine sx_pure rfl rfl rfl (px_load rfl (f12.load1 (at_int (by omega)) Tryz.isAgg3)) ?_
  refine sa rfl rfl rfl rfl ?_
  refine sa rfl rfl rfl rfl ?_
  refine wl_nil (q_n (k11 _ _ ?_))
  refine sx_seq fun K13 k13 => sx_region ?_
  refine sa rfl rfl rfl rfl ?_
  refine wl_nil (q_n (k13 _ _ ?_))
  refine sx_seq fun K14 k14 => ?_
  refine sx_seq fun K15 k15 => sx_region ?_
  refine sm rfl rfl rfl rfl ?_
  have f16 := hvb0.ext cs3
  have f17 := f16.chg cwl7 (by omega)
  refine sx_pure rfl rfl rfl (px_len rfl Tryz.underlying22 f17) ?_
  refine sm rfl rfl rfl rfl ?_
  refine wl_nil (q_n (k15 _ _ ?_))
  refine sx_sub (Sub.cons (t := 1) rfl (.cons (t := 5) rfl (.cons (t := 6) rfl (.cons (t := 7) rfl (.cons (t := 8) rfl (.cons (t := 19) rfl (.cons (t := 20) rfl (.cons (t := 21) rfl (.cons (t := 26) rfl (.cons (t := 27) rfl (.cons (t := 28) rfl (.nil)))))))))))) ?_
  refine sx_block ?_
  refine sx_loop (fun mm aa w' => ∃ (j : Nat) (o2 : List Int) (c : Int), Agr 79 [(1, vb), (5, s3), (6, .int .i64 ↑k), (7, .int .i64 ((dg m).getD k 0)), (8, .int .i64 c), (19, va), (20, .int .i64 (↑(dg m).length)), (21, .int .i64 ↑k), (26, vb), (27, .int .i64 (↑(dg n).length)), (28, .int .i64 ↑j)] aa ∧ Chg w.heap.size ws3.heap.size wl7 w' ∧ Own w' w.heap.size ws3.heap.size s3 intT o2.length 1 (o2.map (Value.int .i64)) ∧ (mm = (dg n).length - j) ∧ (j ≤ (dg n).length) ∧ (o2.length = (dg m).length + (dg n).length + 1) ∧ (Lm o2) ∧ (∀ i, k + (dg n).length ≤ i → o2.getD i 0 = 0) ∧ (0 ≤ c ∧ c < 1000000000) ∧ (vl o2 + Bs ^ (k + j) * c.toNat = vl os + Bs ^ k * (((dg m).getD k 0).toNat * vl ((dg n).take j)))) (_) (fun a ha => ⟨0, os, 0, ha.sub (Sub.cons (t := 1) rfl (.cons (t := 5) rfl (.cons (t := 6) rfl (.cons (t := 7) rfl (.cons (t := 8) (look_int (t := 8) rfl (by first | omega | simp)) (.cons (t := 19) rfl (.cons (t := 20) rfl (.cons (t := 21) rfl (.cons (t := 26) rfl (.cons (t := 27) (look_int (t := 27) rfl (by first | omega | simp)) (.cons (t := 28) (look_int (t := 28) rfl (by first | omega | simp)) (.nil)))))))))))), Chg.refl _ _ _, hs_s3, rfl, by omega, hos, hlm, hz, by omega, by simp [vl]⟩) ?_
  rintro mm aa wl18 ⟨j, o2, c, hAwl18, cwl18, hs_s3, hm, hj, hos2, hlm2, hz2, hc, hv2⟩
  refine (show cw Tryz.prog 79 _ _ _ wl18 from ?_) aa hAwl18
  clear hAwl18
  have zwl18 := cwl18.size
  have bn := (Lm_dg n).getD j
  have on := hlm2.getD (k + j)
  have hxy := mul_limb am.1 am.2 bn.1 bn.2
  refine sx_seq fun K19 k19 => sx_region ?_
  refine sx_pure rfl rfl rfl (px_lt rfl rfl) ?_
  refine wl_nil (q_n (k19 _ _ ?_))
  refine sx_seq fun K20 k20 => ?_
  refine sx_condP rfl (fun h142 => ?_) (fun h142 => ?_)
  ·
   refine sx_skip ?_
   refine q_n (k20 _ _ ?_)
   refine sx_seq fun K21 k21 => ?_
   refine sx_block ?_
   refine sx_seq fun K22 k22 => sx_region ?_
   refine sm rfl rfl rfl rfl ?_
   have f23 := f17.chg cwl18 (by omega)
   refine sx_pure rfl rfl rfl (px_index1 (j := j) rfl rfl (by omega) Tryz.underlying22 Tryz.sizeOf3 f23 (by first | omega | (simp only [List.length_set]; omega))) ?_
   refine sx_pure rfl rfl rfl (px_load rfl (f23.load1 (at_int (by omega)) Tryz.isAgg3)) ?_
   refine sa rfl rfl rfl rfl ?_
   refine sa rfl rfl rfl rfl ?_
   refine wl_nil (q_n (k22 _ _ ?_))
   refine sx_sub (Sub.cons (t := 1) rfl (.cons (t := 5) rfl (.cons (t := 6) rfl (.cons (t := 7) rfl (.cons (t := 8) rfl (.cons (t := 9) rfl (.cons (t := 10) rfl (.cons (t := 19) rfl (.cons (t := 20) rfl (.cons (t := 21) rfl (.cons (t := 26) rfl (.cons (t := 27) rfl (.cons (t := 28) rfl (.nil)))))))))))))) ?_
   refine sx_seq fun K24 k24 => sx_region ?_
   refine sm rfl rfl rfl rfl ?_
   refine sm rfl rfl rfl rfl ?_
   refine sm rfl rfl rfl rfl ?_
   refine sm rfl rfl rfl rfl ?_
   refine sx_pure rfl rfl rfl (px_add rfl rfl (by omega)) ?_
   refine sx_pure rfl rfl rfl (px_index1 (j := (k + j)) rfl rfl (by omega) Tryz.underlying22 Tryz.sizeOf3 hs_s3.sv (by first | omega | (simp only [List.length_set]; omega))) ?_
   refine sx_pure rfl rfl rfl (px_load rfl (hs_s3.sv.load1 (at_int (by omega)) Tryz.isAgg3)) ?_
   refine sm rfl rfl rfl rfl ?_
   refine sm rfl rfl rfl rfl ?_
   refine sx_pure rfl rfl rfl (px_mul rfl rfl (by omega)) ?_
   refine sx_pure rfl rfl rfl (px_add rfl rfl (by omega)) ?_
   refine sx_pure rfl rfl rfl (px_add rfl rfl (by omega)) ?_
   refine sa rfl rfl rfl rfl ?_
   refine wl_nil (q_n (k24 _ _ ?_))
   refine sx_sub (Sub.cons (t := 1) rfl (.cons (t := 5) rfl (.cons (t := 6) rfl (.cons (t := 7) rfl (.cons (t := 8) rfl (.cons (t := 9) rfl (.cons (t := 19) rfl (.cons (t := 20) rfl (.cons (t := 21) rfl (.cons (t := 26) rfl (.cons (t := 27) rfl (.cons (t := 28) rfl (.nil))))))))))))) ?_
   refine sx_seq fun K25 k25 => sx_region ?_
   refine sm rfl rfl rfl rfl ?_
   refine sm rfl rfl rfl rfl ?_
   refine sm rfl rfl rfl rfl ?_
   refine sx_pure rfl rfl rfl (px_add rfl rfl (by omega)) ?_
   refine sm rfl rfl rfl rfl ?_
   refine sx_pure rfl rfl rfl (px_rem rfl rfl (by omega) (by omega)) ?_
   refine sx_pure rfl rfl rfl (px_index1 (j := (k + j)) rfl rfl (by omega) Tryz.underlying22 Tryz.sizeOf3 hs_s3.sv (by first | omega | (simp only [List.length_set]; omega))) ?_
   refine sx_storeO rfl rfl hs_s3 (by first | omega | (simp only [List.length_map]; omega)) Tryz.sizeOf3 rfl (fun w26 sw26 fw26 cw26 => ?_)
   have zw26 := cw26.size
   have nw26 := fw26.set
   refine wl_nil (q_n (k25 _ _ ?_))
   refine sx_sub (Sub.cons (t := 1) rfl (.cons (t := 5) rfl (.cons (t := 6) rfl (.cons (t := 7) rfl (.cons (t := 8) rfl (.cons (t := 19) rfl (.cons (t := 20) rfl (.cons (t := 21) rfl (.cons (t := 26) rfl (.cons (t := 27) rfl (.cons (t := 28) rfl (.nil)))))))))))) ?_
   refine sx_region ?_
   refine sm rfl rfl rfl rfl ?_
   refine sx_pure rfl rfl rfl (px_quo rfl rfl (by omega) (by omega) (by omega)) ?_
   refine sa rfl rfl rfl rfl ?_
   refine wl_nil ?_
   refine q_bn (q_n (k21 _ _ ?_))
   refine sx_region ?_
   refine sx_pure rfl rfl rfl (px_add rfl rfl (by omega)) ?_
   refine sm rfl rfl rfl rfl ?_
   refine wl_nil ?_
   have q27 := Chg.step (l := w.heap.size) (h := ws3.heap.size) cwl18 cw26 (by omega)
   have hs : (c + (((o2).getD (k + j) 0) + (((dg m).getD k 0) * ((dg n).getD j 0)))) = c + (o2.getD (k + j) 0 + (dg m).getD k 0 * (dg n).getD j 0) := by omega
   have hm2 := mul_step (V := vl os) hc.1 am.1 on.1 bn.1 (by omega) (by omega) hs hv2
   exact fun a ha => ⟨_, by omega, (j + 1), ((o2).set (k + j) ((c + (((o2).getD (k + j) 0) + (((dg m).getD k 0) * ((dg n).getD j 0)))) % 1000000000)), ((c + (((o2).getD (k + j) 0) + (((dg m).getD k 0) * ((dg n).getD j 0)))) / 1000000000), ha.sub (Sub.cons (t := 1) rfl (.cons (t := 5) rfl (.cons (t := 6) rfl (.cons (t := 7) rfl (.cons (t := 8) (look_int (t := 8) rfl (by first | omega | simp)) (.cons (t := 19) rfl (.cons (t := 20) rfl (.cons (t := 21) rfl (.cons (t := 26) rfl (.cons (t := 27) rfl (.cons (t := 28) (look_int (t := 28) rfl (by first | omega | simp)) (.nil)))))))))))), q27, (nw26.mono (by omega) (by omega)), rfl, by omega, by simpa using hos2, hlm2.set _ (by omega) (by omega), zero_set' hz2 (by omega), by omega, hm2⟩
  ·
   refine sx_exit ?_
   refine q_e (q_e (q_bx (q_n (k14 _ _ ?_))))
   refine sx_seq fun K28 k28 => sx_region ?_
   refine sm rfl rfl rfl rfl ?_
   refine sm rfl rfl rfl rfl ?_
   have f29 := f17.chg cwl18 (by omega)
   refine sx_pure rfl rfl rfl (px_len rfl Tryz.underlying22 f29) ?_
   refine sx_pure rfl rfl rfl (px_add rfl rfl (by omega)) ?_
   refine sa rfl rfl rfl rfl ?_
   refine wl_nil (q_n (k28 _ _ ?_))
   refine sx_sub (Sub.cons (t := 1) rfl (.cons (t := 5) rfl (.cons (t := 8) rfl (.cons (t := 11) rfl (.cons (t := 19) rfl (.cons (t := 20) rfl (.cons (t := 21) rfl (.nil)))))))) ?_
   refine sx_block ?_
   have ej : j = (dg n).length := by omega
   rw [ej, List.take_length, vl_dg] at hv2
   refine sx_loop (fun mm aa w' => ∃ (q : Nat) (o3 : List Int) (e : Int), Agr 79 [(1, vb), (5, s3), (8, .int .i64 e), (11, .int .i64 ↑q), (19, va), (20, .int .i64 (↑(dg m).length)), (21, .int .i64 ↑k)] aa ∧ Chg w.heap.size ws3.heap.size wl18 w' ∧ Own w' w.heap.size ws3.heap.size s3 intT o3.length 1 (o3.map (Value.int .i64)) ∧ (mm = k + (dg n).length + 1 - q) ∧ (o3.length = (dg m).length + (dg n).length + 1) ∧ (Lm o3) ∧ (∀ i, q ≤ i → o3.getD i 0 = 0) ∧ (0 ≤ e ∧ e < 1000000000) ∧ (q = k + (dg n).length ∨ (q = k + (dg n).length + 1 ∧ e = 0)) ∧ (vl o3 + Bs ^ q * e.toNat = vl os + Bs ^ k * (((dg m).getD k 0).toNat * n))) (_) (fun a ha => ⟨(k + (dg n).length), o2, c, ha.sub (Sub.cons (t := 1) rfl (.cons (t := 5) rfl (.cons (t := 8) (look_int (t := 8) rfl (by first | omega | simp)) (.cons (t := 11) (look_int (t := 11) rfl (by first | omega | simp)) (.cons (t := 19) rfl (.cons (t := 20) rfl (.cons (t := 21) rfl (.nil)))))))), Chg.refl _ _ _, hs_s3, rfl, hos2, hlm2, hz2, by omega, .inl rfl, hv2⟩) ?_
   rintro mm aa wl30 ⟨q, o3, e, hAwl30, cwl30, hs_s3, hm, hos3, hlm3, hz3, he, hq, hv3⟩
   refine (show cw Tryz.prog 79 _ _ _ wl30 from ?_) aa hAwl30
   clear hAwl30
   have zwl30 := cwl30.size
   have on := hlm3.getD q
   have oz := hz3 q (Nat.le_refl _)
   refine sx_seq fun K31 k31 => ?_
   refine sx_seq fun K32 k32 => sx_region ?_
   refine sm rfl rfl rfl rfl ?_
   refine sx_pure rfl rfl rfl (px_gt rfl rfl) ?_
   refine wl_nil (q_n (k32 _ _ ?_))
   refine sx_condP rfl (fun h147 => ?_) (fun h147 => ?_)
   ·
    refine sx_skip ?_
    refine q_n (k31 _ _ ?_)
    refine sx_seq fun K33 k33 => ?_
    refine sx_block ?_
    refine sx_seq fun K34 k34 => sx_region ?_
    refine sm rfl rfl rfl rfl ?_
    refine sm rfl rfl rfl rfl ?_
    refine sm rfl rfl rfl rfl ?_
    refine sx_pure rfl rfl rfl (px_index1 (j := q) rfl rfl (by omega) Tryz.underlying22 Tryz.sizeOf3 hs_s3.sv (by first | omega | (simp only [List.length_set]; omega))) ?_
    refine sx_pure rfl rfl rfl (px_load rfl (hs_s3.sv.load1 (at_int (by omega)) Tryz.isAgg3)) ?_
    refine sx_pure rfl rfl rfl (px_add rfl rfl (by omega)) ?_
    refine sa rfl rfl rfl rfl ?_
    refine wl_nil (q_n (k34 _ _ ?_))
    refine sx_sub (Sub.cons (t := 1) rfl (.cons (t := 5) rfl (.cons (t := 8) rfl (.cons (t := 11) rfl (.cons (t := 19) rfl (.cons (t := 20) rfl (.cons (t := 21) rfl (.nil)))))))) ?_
    refine sx_seq fun K35 k35 => sx_region ?_
    refine sm rfl rfl rfl rfl ?_
    refine sm rfl rfl rfl rfl ?_
    refine sm rfl rfl rfl rfl ?_
    refine sx_pure rfl rfl rfl (px_rem rfl rfl (by omega) (by omega)) ?_
    refine sx_pure rfl rfl rfl (px_index1 (j := q) rfl rfl (by omega) Tryz.underlying22 Tryz.sizeOf3 hs_s3.sv (by first | omega | (simp only [List.length_set]; omega))) ?_
    refine sx_storeO rfl rfl hs_s3 (by first | omega | (simp only [List.length_map]; omega)) Tryz.sizeOf3 rfl (fun w36 sw36 fw36 cw36 => ?_)
    have zw36 := cw36.size
    have nw36 := fw36.set
    refine wl_nil (q_n (k35 _ _ ?_))
    refine sx_region ?_
    refine sm rfl rfl rfl rfl ?_
    refine sx_pure rfl rfl rfl (px_quo rfl rfl (by omega) (by omega) (by omega)) ?_
    refine sa rfl rfl rfl rfl ?_
    refine wl_nil ?_
    refine q_bn (q_n (k33 _ _ ?_))
    refine sx_region ?_
    refine sm rfl rfl rfl rfl ?_
    refine sx_pure rfl rfl rfl (px_add rfl rfl (by omega)) ?_
    refine sa rfl rfl rfl rfl ?_
    refine wl_nil ?_
    have q37 := Chg.step (l := w.heap.size) (h := ws3.heap.size) cwl30 cw36 (by omega)
    have hs : (e + ((o3).getD q 0)) = e + o3.getD q 0 := by omega
    have hm3 := carry_gen (by omega) he.1 on.1 hs hv3
    exact fun a ha => ⟨_, by omega, (q + 1), ((o3).set q ((e + ((o3).getD q 0)) % 1000000000)), ((e + ((o3).getD q 0)) / 1000000000), ha.sub (Sub.cons (t := 1) rfl (.cons (t := 5) rfl (.cons (t := 8) (look_int (t := 8) rfl (by first | omega | simp)) (.cons (t := 11) (look_int (t := 11) rfl (by first | omega | simp)) (.cons (t := 19) rfl (.cons (t := 20) rfl (.cons (t := 21) rfl (.nil)))))))), q37, (nw36.mono (by omega) (by omega)), rfl, by simpa using hos3, hlm3.set _ (by omega) (by omega), zero_set hz3 (by omega), by omega, .inr (by omega), hm3⟩
   ·
    refine sx_exit ?_
    refine q_e (q_e (q_bx (q_bn (q_n (k10 _ _ ?_)))))
    have e0 : e = 0 := by omega
    subst e0
    have hosR := hos3
    have hlmR := hlm3
    have hzR : ∀ i, k + (dg n).length + 1 ≤ i → o3.getD i 0 = 0 := fun i hi => hz3 i (by omega)
    have hvR : vl o3 = vl os + Bs ^ k * (((dg m).getD k 0).toNat * n) := by simpa using hv3
    refine sx_region ?_
    refine sx_pure rfl rfl rfl (px_add rfl rfl (by omega)) ?_
    refine sm rfl rfl rfl rfl ?_
    refine wl_nil ?_
    have q38 := Chg.step (l := w.heap.size) (h := ws3.heap.size) cwl7 cwl18 (by omega)
    have q39 := Chg.step (l := w.heap.size) (h := ws3.heap.size) q38 cwl30 (by omega)
    have hrow := mul_row (P := Bs ^ k) (a := ((dg m).getD k 0).toNat) hv
    rw [← vl_take_succ'] at hrow
    exact fun a ha => ⟨_, by omega, (k + 1), o3, ha.sub (Sub.cons (t := 1) rfl (.cons (t := 5) rfl (.cons (t := 19) rfl (.cons (t := 20) rfl (.cons (t := 21) (look_int (t := 21) rfl (by first | omega | simp)) (.nil)))))), q39, (hs_s3.mono (by omega) (by omega)), rfl, by omega, by simpa using hosR, hlmR, fun i hi => hzR i (by omega), hvR.trans hrow⟩
 ·
  refine sx_exit ?_
  refine q_e (q_e (q_bx (q_n (k4 _ _ ?_))))
  refine sx_seq fun K40 k40 => ?_
  have ek : k = (dg m).length := by omega
  rw [ek, List.take_length, vl_dg] at hv
  have hzz := hlm
  refine sx_region ?_
  refine sm rfl rfl rfl rfl ?_
  refine sx_call rfl rfl Tryz.call97 (c_trim hs_s3 (by assumption) (by first | omega | (simp only [List.length_append, List.length_set, List.length_replicate, List.length_cons, List.length_nil] at *; omega))) (fun v41 w41 p41 => ?_)
  obtain ⟨s41, rfl, os_41, c41⟩ := p41
  have zw41 := c41.size
  refine sa rfl rfl rfl rfl ?_
  refine wl_nil (q_n (k40 _ _ ?_))
  refine sx_retc ?_
  refine sx_ret1 Tryz.results82 rfl ?_
  have hr := os_41
  rw [hv] at hr
  have q42 := Chg.step (l := 0) (h := 0) (Chg.zero (l := 0) (h := 0) cs3) cwl7 (by omega)
  have q43 := Chg.step (l := 0) (h := 0) q42 c41 (by omega)
  exact ⟨_, rfl, hr.mono (by omega) (by omega), q43⟩

theorem c_natMulS {w : World} {va : Value} {lva uva : Nat} {m : Nat} {vb : Value} {lvb uvb : Nat} {ys : List Int} (hva : Sl w lva uva va (dg m)) (hvb : Sl w lvb uvb vb (ys)) (hbm : (dg m).length ≤ 1000) (hbn : ys.length ≤ 1000) (hy : ys = dg (vl ys)) :
  Ret Tryz.prog 82 [va, vb] w fun v w' => ∃ s, v = s ∧ OwnI w' w.heap.size w'.heap.size s intT (dg (m * vl ys)) ∧ Chg 0 0 w w' := by
 have hl : (dg (vl ys)).length ≤ 1000 := by rw [← hy]; exact hbn
 rw [hy] at hvb; exact c_natMul hva hvb hbm hl

theorem c_subTimes {w : World} {va : Value} {lva uva : Nat} {preva sufva : List Value} {zs : List Int} {vb : Value} {lvb uvb : Nat} {ys : List Int} {q : Int} (hva : Win w lva uva va intT preva sufva zs) (hvb : Sl w lvb uvb vb (ys)) (hd : uvb ≤ lva ∨ uva ≤ lvb) (hzl : zs.length = ys.length + 1) (hz : Lm zs) (hy : Lm ys) (hq : 0 ≤ q ∧ q ≤ 999999999) (h63 : zs.length ≤ 1000) :
  Ret Tryz.prog 106 [va, vb, .int .i64 q] w fun v w' => ∃ os, v = .bool (decide ((os).getD (ys).length 0 < 0)) ∧ Win w' lva uva va intT preva sufva (os) ∧ ((os).length = (zs).length ∧ Lm ((os).take (ys).length) ∧ ((vl ((os).take (ys).length) : Nat) : Int) + ((Bs ^ (ys).length : Nat) : Int) * (os).getD (ys).length 0 = ((vl ((zs).take (ys).length) : Nat) : Int) + ((Bs ^ (ys).length : Nat) : Int) * (zs).getD (ys).length 0 - q * ((vl ys : Nat) : Int)) ∧ Chg lva uva w w' := by
 refine sx_enter Tryz.func106 rfl Tryz.ntmps106 (Nat.le_of_ble_eq_true rfl) ?_
 refine sx_seq fun K1 k1 => sx_region ?_
 refine sa rfl rfl rfl rfl ?_
 refine wl_nil (q_n (k1 _ _ ?_))
 refine sx_seq fun K2 k2 => sx_region ?_
 refine sa rfl rfl rfl rfl ?_
 refine wl_nil (q_n (k2 _ _ ?_))
 refine sx_seq fun K3 k3 => ?_
 refine sx_seq fun K4 k4 => sx_region ?_
 refine sm rfl rfl rfl rfl ?_
 refine sx_pure rfl rfl rfl (px_len rfl Tryz.underlying22 hvb) ?_
 refine sm rfl rfl rfl rfl ?_
 refine wl_nil (q_n (k4 _ _ ?_))
 refine sx_block ?_
 refine sx_loop (fun mm aa w' => ∃ (k : Nat) (os : List Int) (c : Int), Agr 58 [(0, va), (1, vb), (2, .int .i64 q), (7, .int .i64 c), (11, vb), (12, .int .i64 ↑ys.length), (13, .int .i64 ↑k)] aa ∧ Chg lva uva w w' ∧ Win w' lva uva va intT preva sufva (os) ∧ (mm = ys.length - k) ∧ (k ≤ ys.length) ∧ (os.length = zs.length) ∧ (Lm (os.take k)) ∧ (os.drop k = zs.drop k) ∧ (0 ≤ c ∧ c < 1000000000) ∧ (vl (zs.take k) + Bs ^ k * c.toNat = vl (os.take k) + q.toNat * vl (ys.take k))) (_) (fun a ha => ⟨0, zs, 0, ha.sub (Sub.cons (t := 0) rfl (.cons (t := 1) rfl (.cons (t := 2) rfl (.cons (t := 7) (look_int (t := 7) rfl (by first | omega | simp)) (.cons (t := 11) rfl (.cons (t := 12) (look_int (t := 12) rfl (by first | omega | simp)) (.cons (t := 13) (look_int (t := 13) rfl (by first | omega | simp)) (.nil)))))))), Chg.refl _ _ _, hva, rfl, by omega, rfl, Lm.nil, rfl, by omega, by simp [vl]⟩) ?_
 rintro mm aa wl5 ⟨k, os, c, hAwl5, cwl5, hs_va, hm, hk, ho, hlm, hdr, hc, hv⟩
 refine (show cw Tryz.prog 58 _ _ _ wl5 from ?_) aa hAwl5
 clear hAwl5
 have zwl5 := cwl5.size
 have un := hz.getD k
 have yn := hy.getD k
 have hxy := mul_limb yn.1 yn.2 hq.1 (by omega)
 have ue := getD_drop hdr
 refine sx_seq fun K6 k6 => sx_region ?_
 refine sx_pure rfl rfl rfl (px_lt rfl rfl) ?_
 refine wl_nil (q_n (k6 _ _ ?_))
 refine sx_seq fun K7 k7 => ?_
 refine sx_condP rfl (fun h57 => ?_) (fun h57 => ?_)
 ·
  refine sx_skip ?_
  refine q_n (k7 _ _ ?_)
  refine sx_seq fun K8 k8 => ?_
  refine sx_block ?_
  refine sx_seq fun K9 k9 => sx_region ?_
  refine sm rfl rfl rfl rfl ?_
  have f10 := hvb.chg cwl5 (by omega)
  refine sx_pure rfl rfl rfl (px_index1 (j := k) rfl rfl (by omega) Tryz.underlying22 Tryz.sizeOf3 f10 (by first | omega | (simp only [List.length_set]; omega))) ?_
  refine sx_pure rfl rfl rfl (px_load rfl (f10.load1 (at_int (by first | omega | (simp only [List.length_set]; omega))) Tryz.isAgg3)) ?_
  refine sa rfl rfl rfl rfl ?_
  refine sa rfl rfl rfl rfl ?_
  refine wl_nil (q_n (k9 _ _ ?_))
  refine sx_seq fun K11 k11 => sx_region ?_
  refine sm rfl rfl rfl rfl ?_
  refine sm rfl rfl rfl rfl ?_
  refine sx_pure rfl rfl rfl (px_index1 (j := k) rfl rfl (by omega) Tryz.underlying22 Tryz.sizeOf3 hs_va.sv (by first | omega | (simp only [List.length_set]; omega))) ?_
  refine sx_pure rfl rfl rfl (px_load rfl (hs_va.sv.load1 (at_int (by first | omega | (simp only [List.length_set]; omega))) Tryz.isAgg3)) ?_
  refine sm rfl rfl rfl rfl ?_
  refine sm rfl rfl rfl rfl ?_
  refine sx_pure rfl rfl rfl (px_mul rfl rfl (by omega)) ?_
  refine sx_pure rfl rfl rfl (px_sub rfl rfl (by omega)) ?_
  refine sm rfl rfl rfl rfl ?_
  refine sx_pure rfl rfl rfl (px_sub rfl rfl (by omega)) ?_
  refine sa rfl rfl rfl rfl ?_
  refine wl_nil (q_n (k11 _ _ ?_))
  refine sx_sub (Sub.cons (t := 0) rfl (.cons (t := 1) rfl (.cons (t := 2) rfl (.cons (t := 7) rfl (.cons (t := 8) rfl (.cons (t := 10) rfl (.cons (t := 11) rfl (.cons (t := 12) rfl (.cons (t := 13) rfl (.nil)))))))))) ?_
  refine sx_seq fun K12 k12 => sx_region ?_
  refine sa rfl rfl rfl rfl ?_
  refine wl_nil (q_n (k12 _ _ ?_))
  refine sx_seq fun K13 k13 => ?_
  refine sx_seq fun K14 k14 => sx_region ?_
  refine sm rfl rfl rfl rfl ?_
  refine sx_pure rfl rfl rfl (px_lt rfl rfl) ?_
  refine wl_nil (q_n (k14 _ _ ?_))
  refine sx_condP rfl (fun h60 => ?_) (fun h60 => ?_)
  ·
   refine sx_seq fun K15 k15 => sx_region ?_
   refine sm rfl rfl rfl rfl ?_
   refine sx_pure rfl rfl rfl (px_neg rfl (by omega)) ?_
   refine sx_pure rfl rfl rfl (px_add rfl rfl (by omega)) ?_
   refine sx_pure rfl rfl rfl (px_sub rfl rfl (by omega)) ?_
   refine sx_pure rfl rfl rfl (px_quo rfl rfl (by omega) (by omega) (by omega)) ?_
   refine sa rfl rfl rfl rfl ?_
   refine wl_nil (q_n (k15 _ _ ?_))
   refine sx_sub (Sub.cons (t := 0) rfl (.cons (t := 1) rfl (.cons (t := 2) rfl (.cons (t := 7) rfl (.cons (t := 8) rfl (.cons (t := 10) rfl (.cons (t := 11) rfl (.cons (t := 12) rfl (.cons (t := 13) rfl (.nil)))))))))) ?_
   refine sx_region ?_
   refine sm rfl rfl rfl rfl ?_
   refine sm rfl rfl rfl rfl ?_
   refine sx_pure rfl rfl rfl (px_mul rfl rfl (by omega)) ?_
   refine sx_pure rfl rfl rfl (px_add rfl rfl (by omega)) ?_
   refine sa rfl rfl rfl rfl ?_
   refine wl_nil (q_n (k13 _ _ ?_))
   refine sx_region ?_
   refine sm rfl rfl rfl rfl ?_
   refine sm rfl rfl rfl rfl ?_
   refine sm rfl rfl rfl rfl ?_
   refine sx_pure rfl rfl rfl (px_index1 (j := k) rfl rfl (by omega) Tryz.underlying22 Tryz.sizeOf3 hs_va.sv (by first | omega | (simp only [List.length_set]; omega))) ?_
   refine sx_storeW rfl rfl hs_va (by first | omega | (simp only [List.length_set]; omega)) Tryz.sizeOf3 (fun w16 sw16 fw16 cw16 => ?_)
   have zw16 := cw16.size
   refine wl_nil ?_
   refine q_bn (q_n (k8 _ _ ?_))
   refine sx_sub (Sub.cons (t := 0) rfl (.cons (t := 1) rfl (.cons (t := 2) rfl (.cons (t := 7) rfl (.cons (t := 11) rfl (.cons (t := 12) rfl (.cons (t := 13) rfl (.nil)))))))) ?_
   refine sx_region ?_
   refine sx_pure rfl rfl rfl (px_add rfl rfl (by omega)) ?_
   refine sm rfl rfl rfl rfl ?_
   refine wl_nil ?_
   have q17 := Chg.step (l := lva) (h := uva) cwl5 cw16 (by omega)
   have hxl : (0 : Int) ≤ (((((os).getD k 0) - (((ys).getD k 0) * q)) - c) + (((((-((((os).getD k 0) - (((ys).getD k 0) * q)) - c)) + 1000000000) - 1) / 1000000000) * 1000000000)) ∧ (((((os).getD k 0) - (((ys).getD k 0) * q)) - c) + (((((-((((os).getD k 0) - (((ys).getD k 0) * q)) - c)) + 1000000000) - 1) / 1000000000) * 1000000000)) < 1000000000 := by omega
   have hcl : (0 : Int) ≤ ((((-((((os).getD k 0) - (((ys).getD k 0) * q)) - c)) + 1000000000) - 1) / 1000000000) ∧ ((((-((((os).getD k 0) - (((ys).getD k 0) * q)) - c)) + 1000000000) - 1) / 1000000000) < (1000000000 : Int) := by omega
   have hnx := subt_next (ys := ys) (x := (((((os).getD k 0) - (((ys).getD k 0) * q)) - c) + (((((-((((os).getD k 0) - (((ys).getD k 0) * q)) - c)) + 1000000000) - 1) / 1000000000) * 1000000000))) (c' := ((((-((((os).getD k 0) - (((ys).getD k 0) * q)) - c)) + 1000000000) - 1) / 1000000000)) (by omega) hdr hq.1 hc.1 hcl.1 hxl un.1 yn.1 (by omega) hv
   exact fun a ha => ⟨_, by omega, (k + 1), ((os).set k (((((os).getD k 0) - (((ys).getD k 0) * q)) - c) + (((((-((((os).getD k 0) - (((ys).getD k 0) * q)) - c)) + 1000000000) - 1) / 1000000000) * 1000000000))), ((((-((((os).getD k 0) - (((ys).getD k 0) * q)) - c)) + 1000000000) - 1) / 1000000000), ha.sub (Sub.cons (t := 0) rfl (.cons (t := 1) rfl (.cons (t := 2) rfl (.cons (t := 7) (look_int (t := 7) rfl (by first | omega | simp)) (.cons (t := 11) rfl (.cons (t := 12) rfl (.cons (t := 13) (look_int (t := 13) rfl (by first | omega | simp)) (.nil)))))))), q17, (fw16.mono (by omega) (by omega)), rfl, by omega, by rw [List.length_set]; exact ho, Lm_take_set hlm (by omega) hxl.1 hxl.2, drop_set_succ hdr, hcl, hnx⟩
  ·
   refine sx_skip ?_
   refine q_n (k13 _ _ ?_)
   refine sx_region ?_
   refine sm rfl rfl rfl rfl ?_
   refine sm rfl rfl rfl rfl ?_
   refine sm rfl rfl rfl rfl ?_
   refine sx_pure rfl rfl rfl (px_index1 (j := k) rfl rfl (by omega) Tryz.underlying22 Tryz.sizeOf3 hs_va.sv (by first | omega | (simp only [List.length_set]; omega))) ?_
   refine sx_storeW rfl rfl hs_va (by first | omega | (simp only [List.length_set]; omega)) Tryz.sizeOf3 (fun w18 sw18 fw18 cw18 => ?_)
   have zw18 := cw18.size
   refine wl_nil ?_
   refine q_bn (q_n (k8 _ _ ?_))
   refine sx_sub (Sub.cons (t := 0) rfl (.cons (t := 1) rfl (.cons (t := 2) rfl (.cons (t := 7) rfl (.cons (t := 11) rfl (.cons (t := 12) rfl (.cons (t := 13) rfl (.nil)))))))) ?_
   refine sx_region ?_
   refine sx_pure rfl rfl rfl (px_add rfl rfl (by omega)) ?_
   refine sm rfl rfl rfl rfl ?_
   refine wl_nil ?_
   have q19 := Chg.step (l := lva) (h := uva) cwl5 cw18 (by omega)
   have hxl : (0 : Int) ≤ ((((os).getD k 0) - (((ys).getD k 0) * q)) - c) ∧ ((((os).getD k 0) - (((ys).getD k 0) * q)) - c) < 1000000000 := by omega
   have hcl : (0 : Int) ≤ 0 ∧ 0 < (1000000000 : Int) := by omega
   have hnx := subt_next (ys := ys) (x := ((((os).getD k 0) - (((ys).getD k 0) * q)) - c)) (c' := 0) (by omega) hdr hq.1 hc.1 hcl.1 hxl un.1 yn.1 (by omega) hv
   exact fun a ha => ⟨_, by omega, (k + 1), ((os).set k ((((os).getD k 0) - (((ys).getD k 0) * q)) - c)), 0, ha.sub (Sub.cons (t := 0) rfl (.cons (t := 1) rfl (.cons (t := 2) rfl (.cons (t := 7) (look_int (t := 7) rfl (by first | omega | simp)) (.cons (t := 11) rfl (.cons (t := 12) rfl (.cons (t := 13) (look_int (t := 13) rfl (by first | omega | simp)) (.nil)))))))), q19, (fw18.mono (by omega) (by omega)), rfl, by omega, by rw [List.length_set]; exact ho, Lm_take_set hlm (by omega) hxl.1 hxl.2, drop_set_succ hdr, hcl, hnx⟩
 ·
  refine sx_exit ?_
  refine q_e (q_e (q_bx (q_n (k3 _ _ ?_))))
  refine sx_seq fun K20 k20 => ?_
  have ek : k = ys.length := by omega
  subst ek
  refine sx_region ?_
  refine sm rfl rfl rfl rfl ?_
  refine sm rfl rfl rfl rfl ?_
  have f21 := hvb.chg cwl5 (by omega)
  refine sx_pure rfl rfl rfl (px_len rfl Tryz.underlying22 f21) ?_
  refine sx_pure rfl rfl rfl (px_index1 (j := (ys).length) rfl rfl (by omega) Tryz.underlying22 Tryz.sizeOf3 hs_va.sv (by first | omega | (simp only [List.length_set]; omega))) ?_
  refine sx_pure rfl rfl rfl (px_load rfl (hs_va.sv.load1 (at_int (by first | omega | (simp only [List.length_set]; omega))) Tryz.isAgg3)) ?_
  refine sm rfl rfl rfl rfl ?_
  refine sx_pure rfl rfl rfl (px_sub rfl rfl (by omega)) ?_
  refine sx_pure rfl rfl rfl (px_index1 (j := (ys).length) rfl rfl (by omega) Tryz.underlying22 Tryz.sizeOf3 hs_va.sv (by first | omega | (simp only [List.length_set]; omega))) ?_
  refine sx_storeW rfl rfl hs_va (by first | omega | (simp only [List.length_set]; omega)) Tryz.sizeOf3 (fun w22 sw22 fw22 cw22 => ?_)
  have zw22 := cw22.size
  refine wl_nil (q_n (k20 _ _ ?_))
  refine sx_sub (Sub.cons (t := 0) rfl (.cons (t := 1) rfl (.nil))) ?_
  refine sx_seq fun K23 k23 => sx_region ?_
  refine sm rfl rfl rfl rfl ?_
  refine sm rfl rfl rfl rfl ?_
  have f24 := f21.chg cw22 (by omega)
  refine sx_pure rfl rfl rfl (px_len rfl Tryz.underlying22 f24) ?_
  refine sx_pure rfl rfl rfl (px_index1 (j := (ys).length) rfl rfl (by omega) Tryz.underlying22 Tryz.sizeOf3 fw22.sv (by first | omega | (simp only [List.length_set]; omega))) ?_
  refine sx_pure rfl rfl rfl (px_load rfl (fw22.sv.load1 (at_int (by first | omega | (simp only [List.length_set]; omega))) Tryz.isAgg3)) ?_
  refine sx_pure rfl rfl rfl (px_lt rfl rfl) ?_
  refine sa rfl rfl rfl rfl ?_
  refine wl_nil (q_n (k23 _ _ ?_))
  refine sx_retc ?_
  refine sx_ret1 Tryz.results106 rfl ?_
  have he := subt_end (ys := ys) (by omega) rfl hdr hq.1 hc.1 hv
  have q25 := Chg.step (l := lva) (h := uva) cwl5 cw22 (by omega)
  exact ⟨((os).set ((ys).length) (((os).getD ((ys).length) 0) - c)), rfl, fw22, ⟨by rw [List.length_set]; exact ho, by rw [take_set_self]; exact hlm, he⟩, q25⟩

theorem c_addBack {w : World} {va : Value} {lva uva : Nat} {preva sufva : List Value} {zs : List Int} {vb : Value} {lvb uvb : Nat} {ys : List Int} (hva : Win w lva uva va intT preva sufva zs) (hvb : Sl w lvb uvb vb (ys)) (hd : uvb ≤ lva ∨ uva ≤ lvb) (hzl : zs.length = ys.length + 1) (hz : Lm (zs.take ys.length)) (hy : Lm ys) (ht : -1000000000 ≤ zs.getD ys.length 0 ∧ zs.getD ys.length 0 ≤ 1000000000) (h63 : zs.length ≤ 1000) :
  Ret Tryz.prog 107 [va, vb] w fun v w' => ∃ os, v = .tuple #[] ∧ Win w' lva uva va intT preva sufva (os) ∧ ((os).length = (zs).length ∧ Lm ((os).take (ys).length) ∧ ((vl ((os).take (ys).length) : Nat) : Int) + ((Bs ^ (ys).length : Nat) : Int) * (os).getD (ys).length 0 = ((vl ((zs).take (ys).length) : Nat) : Int) + ((Bs ^ (ys).length : Nat) : Int) * (zs).getD (ys).length 0 + ((vl ys : Nat) : Int)) ∧ Chg lva uva w w' := by
 refine sx_enter Tryz.func107 rfl Tryz.ntmps107 (Nat.le_of_ble_eq_true rfl) ?_
 refine sx_seq fun K1 k1 => sx_region ?_
 refine sa rfl rfl rfl rfl ?_
 refine wl_nil (q_n (k1 _ _ ?_))
 refine sx_seq fun K2 k2 => ?_
 refine sx_seq fun K3 k3 => sx_region ?_
 refine sm rfl rfl rfl rfl ?_
 refine sx_pure rfl rfl rfl (px_len rfl Tryz.underlying22 hvb) ?_
 refine sm rfl rfl rfl rfl ?_
 refine wl_nil (q_n (k3 _ _ ?_))
 refine sx_block ?_
 refine sx_loop (fun mm aa w' => ∃ (k : Nat) (os : List Int) (c : Nat), Agr 38 [(0, va), (1, vb), (4, .int .i64 ((c : Nat) : Int)), (7, vb), (8, .int .i64 ↑ys.length), (9, .int .i64 ↑k)] aa ∧ Chg lva uva w w' ∧ Win w' lva uva va intT preva sufva (os) ∧ (mm = ys.length - k) ∧ (k ≤ ys.length) ∧ (os.length = zs.length) ∧ (Lm (os.take k)) ∧ (os.drop k = zs.drop k) ∧ (c ≤ 1) ∧ (vl (os.take k) + Bs ^ k * c = vl (zs.take k) + vl (ys.take k))) (_) (fun a ha => ⟨0, zs, 0, ha.sub (Sub.cons (t := 0) rfl (.cons (t := 1) rfl (.cons (t := 4) (look_int (t := 4) rfl (by first | omega | simp)) (.cons (t := 7) rfl (.cons (t := 8) (look_int (t := 8) rfl (by first | omega | simp)) (.cons (t := 9) (look_int (t := 9) rfl (by first | omega | simp)) (.nil))))))), Chg.refl _ _ _, hva, rfl, by omega, rfl, Lm.nil, rfl, by omega, by simp [vl]⟩) ?_
 rintro mm aa wl4 ⟨k, os, c, hAwl4, cwl4, hs_va, hm, hk, ho, hlm, hdr, hc, hv⟩
 refine (show cw Tryz.prog 38 _ _ _ wl4 from ?_) aa hAwl4
 clear hAwl4
 have zwl4 := cwl4.size
 refine sx_seq fun K5 k5 => sx_region ?_
 refine sx_pure rfl rfl rfl (px_lt rfl rfl) ?_
 refine wl_nil (q_n (k5 _ _ ?_))
 refine sx_seq fun K6 k6 => ?_
 refine sx_condP rfl (fun h73 => ?_) (fun h73 => ?_)
 ·
  have un := hz.getD k
  rw [getD_take (by omega)] at un
  have yn := hy.getD k
  have ue := getD_drop hdr
  refine sx_skip ?_
  refine q_n (k6 _ _ ?_)
  refine sx_seq fun K7 k7 => ?_
  refine sx_block ?_
  refine sx_seq fun K8 k8 => sx_region ?_
  refine sm rfl rfl rfl rfl ?_
  have f9 := hvb.chg cwl4 (by omega)
  refine sx_pure rfl rfl rfl (px_index1 (j := k) rfl rfl (by omega) Tryz.underlying22 Tryz.sizeOf3 f9 (by first | omega | (simp only [List.length_set]; omega))) ?_
  refine sx_pure rfl rfl rfl (px_load rfl (f9.load1 (at_int (by first | omega | (simp only [List.length_set]; omega))) Tryz.isAgg3)) ?_
  refine sa rfl rfl rfl rfl ?_
  refine sa rfl rfl rfl rfl ?_
  refine wl_nil (q_n (k8 _ _ ?_))
  refine sx_seq fun K10 k10 => sx_region ?_
  refine sm rfl rfl rfl rfl ?_
  refine sm rfl rfl rfl rfl ?_
  refine sm rfl rfl rfl rfl ?_
  refine sx_pure rfl rfl rfl (px_index1 (j := k) rfl rfl (by omega) Tryz.underlying22 Tryz.sizeOf3 hs_va.sv (by first | omega | (simp only [List.length_set]; omega))) ?_
  refine sx_pure rfl rfl rfl (px_load rfl (hs_va.sv.load1 (at_int (by first | omega | (simp only [List.length_set]; omega))) Tryz.isAgg3)) ?_
  refine sm rfl rfl rfl rfl ?_
  refine sx_pure rfl rfl rfl (px_add rfl rfl (by omega)) ?_
  refine sx_pure rfl rfl rfl (px_add rfl rfl (by omega)) ?_
  refine sa rfl rfl rfl rfl ?_
  refine wl_nil (q_n (k10 _ _ ?_))
  refine sx_sub (Sub.cons (t := 0) rfl (.cons (t := 1) rfl (.cons (t := 4) rfl (.cons (t := 5) rfl (.cons (t := 7) rfl (.cons (t := 8) rfl (.cons (t := 9) rfl (.nil)))))))) ?_
  refine sx_seq fun K11 k11 => sx_region ?_
  refine sm rfl rfl rfl rfl ?_
  refine sm rfl rfl rfl rfl ?_
  refine sm rfl rfl rfl rfl ?_
  refine sx_pure rfl rfl rfl (px_rem rfl rfl (by omega) (by omega)) ?_
  refine sx_pure rfl rfl rfl (px_index1 (j := k) rfl rfl (by omega) Tryz.underlying22 Tryz.sizeOf3 hs_va.sv (by first | omega | (simp only [List.length_set]; omega))) ?_
  refine sx_storeW rfl rfl hs_va (by first | omega | (simp only [List.length_set]; omega)) Tryz.sizeOf3 (fun w12 sw12 fw12 cw12 => ?_)
  have zw12 := cw12.size
  refine wl_nil (q_n (k11 _ _ ?_))
  refine sx_region ?_
  refine sm rfl rfl rfl rfl ?_
  refine sx_pure rfl rfl rfl (px_quo rfl rfl (by omega) (by omega) (by omega)) ?_
  refine sa rfl rfl rfl rfl ?_
  refine wl_nil ?_
  refine q_bn (q_n (k7 _ _ ?_))
  refine sx_region ?_
  refine sx_pure rfl rfl rfl (px_add rfl rfl (by omega)) ?_
  refine sm rfl rfl rfl rfl ?_
  refine wl_nil ?_
  have q13 := Chg.step (l := lva) (h := uva) cwl4 cw12 (by omega)
  have hnx := addb_next (ys := ys) (s := (((c : Nat) : Int) + (((os).getD k 0) + ((ys).getD k 0)))) (c := c) (by omega) hdr un.1 yn.1 (by omega) hv
  exact fun a ha => ⟨_, by omega, (k + 1), ((os).set k ((((c : Nat) : Int) + (((os).getD k 0) + ((ys).getD k 0))) % 1000000000)), ((((c : Nat) : Int) + (((os).getD k 0) + ((ys).getD k 0))) / 1000000000).toNat, ha.sub (Sub.cons (t := 0) rfl (.cons (t := 1) rfl (.cons (t := 4) (look_int (t := 4) rfl (by first | omega | simp)) (.cons (t := 7) rfl (.cons (t := 8) rfl (.cons (t := 9) (look_int (t := 9) rfl (by first | omega | simp)) (.nil))))))), q13, (fw12.mono (by omega) (by omega)), rfl, by omega, by rw [List.length_set]; exact ho, Lm_take_set hlm (by omega) (by omega) (by omega), drop_set_succ hdr, by omega, hnx⟩
 ·
  refine sx_exit ?_
  refine q_e (q_e (q_bx (q_n (k2 _ _ ?_))))
  have ek : k = ys.length := by omega
  subst ek
  have ue := getD_drop hdr
  refine sx_region ?_
  refine sm rfl rfl rfl rfl ?_
  refine sm rfl rfl rfl rfl ?_
  have f14 := hvb.chg cwl4 (by omega)
  refine sx_pure rfl rfl rfl (px_len rfl Tryz.underlying22 f14) ?_
  refine sx_pure rfl rfl rfl (px_index1 (j := (ys).length) rfl rfl (by omega) Tryz.underlying22 Tryz.sizeOf3 hs_va.sv (by first | omega | (simp only [List.length_set]; omega))) ?_
  refine sx_pure rfl rfl rfl (px_load rfl (hs_va.sv.load1 (at_int (by first | omega | (simp only [List.length_set]; omega))) Tryz.isAgg3)) ?_
  refine sm rfl rfl rfl rfl ?_
  refine sx_pure rfl rfl rfl (px_add rfl rfl (by omega)) ?_
  refine sx_pure rfl rfl rfl (px_index1 (j := (ys).length) rfl rfl (by omega) Tryz.underlying22 Tryz.sizeOf3 hs_va.sv (by first | omega | (simp only [List.length_set]; omega))) ?_
  refine sx_storeW rfl rfl hs_va (by first | omega | (simp only [List.length_set]; omega)) Tryz.sizeOf3 (fun w15 sw15 fw15 cw15 => ?_)
  have zw15 := cw15.size
  refine wl_nil ?_
  refine sx_end0 rfl ?_
  have he := addb_end (ys := ys) (by omega) rfl hdr hv
  have q16 := Chg.step (l := lva) (h := uva) cwl4 cw15 (by omega)
  exact ⟨((os).set ((ys).length) (((os).getD ((ys).length) 0) + ((c : Nat) : Int))), rfl, fw15, ⟨by rw [List.length_set]; exact ho, by rw [take_set_self]; exact hlm, he⟩, q16⟩

theorem c_divStep {w : World} {va : Value} {lva uva : Nat} {preva sufva : List Value} {zs : List Int} {vb : Value} {lvb uvb : Nat} {ys : List Int} (hva : Win w lva uva va intT preva sufva zs) (hvb : Sl w lvb uvb vb (ys)) (hd : uvb ≤ lva ∨ uva ≤ lvb) (hzl : zs.length = ys.length + 1) (h2 : 2 ≤ ys.length) (hz : Lm zs) (hy : Lm ys) (hv1 : 0 < ys.getD (ys.length - 1) 0) (hU : vl zs < 1000000000 * vl ys) (h63 : zs.length ≤ 1000) :
  Ret Tryz.prog 96 [va, vb] w fun v w' => ∃ os, v = .int .i64 (((vl zs / vl ys : Nat) : Int)) ∧ Win w' lva uva va intT preva sufva (os) ∧ (Lm os ∧ (os).length = (zs).length ∧ vl os = vl zs % vl ys) ∧ Chg lva uva w w' := by
 have a0 := hz.getD ys.length
 have a1 := hz.getD (ys.length - 1)
 have a2 := hz.getD (ys.length - 2)
 have b1 := hy.getD (ys.length - 1)
 have b2 := hy.getD (ys.length - 2)
 have hV : 0 < vl ys := by omega
 refine sx_enter Tryz.func96 rfl Tryz.ntmps96 (Nat.le_of_ble_eq_true rfl) ?_
 refine sx_seq fun K1 k1 => sx_region ?_
 refine sa rfl rfl rfl rfl ?_
 refine wl_nil (q_n (k1 _ _ ?_))
 refine sx_seq fun K2 k2 => sx_region ?_
 refine sm rfl rfl rfl rfl ?_
 refine sx_pure rfl rfl rfl (px_len rfl Tryz.underlying22 hvb) ?_
 refine sa rfl rfl rfl rfl ?_
 refine wl_nil (q_n (k2 _ _ ?_))
 refine sx_seq fun K3 k3 => ?_
 refine dx_region (fun w' => Chg 0 0 w w') (by kernel_rfl) (Chg.zero (Chg.drew _)) ?_
 have d4 := Chg.drew w
 have s4 : Chg 0 0 w (World.drew w) := Chg.zero (Chg.drew _)
 have y4 : (World.drew w).heap.size = w.heap.size := rfl
 generalize World.drew w = w4 at *
 have zw4 := d4.size
 refine dx_take 0 rfl rfl rfl rfl (by kernel_rfl) (by kernel_rfl) (by kernel_rfl) s4 (fun _ hS => px_move rfl) ?_
 refine dx_take 1 rfl rfl rfl rfl (by kernel_rfl) (by kernel_rfl) (by kernel_rfl) s4 (fun _ hS => px_move rfl) ?_
 refine dx_take 2 rfl rfl rfl rfl (by kernel_rfl) (by kernel_rfl) (by kernel_rfl) s4 (fun _ hS => px_index1 (j := (ys).length) rfl rfl (by omega) Tryz.underlying22 Tryz.sizeOf3 ((hva.sv).chg hS (by omega)) (by omega)) ?_
 refine dx_take 3 rfl rfl rfl rfl (by kernel_rfl) (by kernel_rfl) (by kernel_rfl) s4 (fun _ hS => px_load rfl (((hva.sv).chg hS (by omega)).load1 (at_int (by omega)) Tryz.isAgg3)) ?_
 refine dx_take 4 rfl rfl rfl rfl (by kernel_rfl) (by kernel_rfl) (by kernel_rfl) s4 (fun _ hS => px_mul rfl rfl (by omega)) ?_
 refine dx_take 5 rfl rfl rfl rfl (by kernel_rfl) (by kernel_rfl) (by kernel_rfl) s4 (fun _ hS => px_move rfl) ?_
 refine dx_take 6 rfl rfl rfl rfl (by kernel_rfl) (by kernel_rfl) (by kernel_rfl) s4 (fun _ hS => px_move rfl) ?_
 refine dx_take 7 rfl rfl rfl rfl (by kernel_rfl) (by kernel_rfl) (by kernel_rfl) s4 (fun _ hS => px_sub rfl rfl (by omega)) ?_
 refine dx_take 8 rfl rfl rfl rfl (by kernel_rfl) (by kernel_rfl) (by kernel_rfl) s4 (fun _ hS => px_index1 (j := ((ys).length - 1)) rfl rfl (by omega) Tryz.underlying22 Tryz.sizeOf3 ((hva.sv).chg hS (by omega)) (by omega)) ?_
 refine dx_take 9 rfl rfl rfl rfl (by kernel_rfl) (by kernel_rfl) (by kernel_rfl) s4 (fun _ hS => px_load rfl (((hva.sv).chg hS (by omega)).load1 (at_int (by omega)) Tryz.isAgg3)) ?_
 refine dx_take 10 rfl rfl rfl rfl (by kernel_rfl) (by kernel_rfl) (by kernel_rfl) s4 (fun _ hS => px_add rfl rfl (by omega)) ?_
 refine dx_take 11 rfl rfl rfl rfl (by kernel_rfl) (by kernel_rfl) (by kernel_rfl) s4 (fun _ hS => px_assign rfl) ?_
 refine dx_done (by kernel_rfl) ?_
 refine q_n (k3 _ _ ?_)
 refine sx_sub (Sub.cons (t := 0) rfl (.cons (t := 1) rfl (.cons (t := 4) rfl (.cons (t := 5) rfl (.cons (t := 6) rfl (.nil)))))) ?_
 refine sx_seq fun K5 k5 => sx_region ?_
 refine sm rfl rfl rfl rfl ?_
 refine sm rfl rfl rfl rfl ?_
 refine sm rfl rfl rfl rfl ?_
 refine sx_pure rfl rfl rfl (px_sub rfl rfl (by omega)) ?_
 have f6 := hvb.ext d4
 refine sx_pure rfl rfl rfl (px_index1 (j := ((ys).length - 1)) rfl rfl (by omega) Tryz.underlying22 Tryz.sizeOf3 f6 (by omega)) ?_
 refine sx_pure rfl rfl rfl (px_load rfl (f6.load1 (at_int (by omega)) Tryz.isAgg3)) ?_
 refine sx_pure rfl rfl rfl (px_quo rfl rfl (by omega) (by omega) (by omega)) ?_
 refine sx_pure rfl rfl rfl (px_min rfl rfl) ?_
 refine sa rfl rfl rfl rfl ?_
 refine wl_nil (q_n (k5 _ _ ?_))
 refine sx_seq fun K7 k7 => ?_
 refine sx_block ?_
 refine sx_loop (fun mm aa w' => ∃ (q : Int), Agr 81 [(0, va), (1, vb), (5, .int .i64 ↑ys.length), (6, .int .i64 ((((zs).getD ((ys).length) 0) * 1000000000) + ((zs).getD ((ys).length - 1) 0))), (7, .int .i64 q)] aa ∧ Chg 0 0 w4 w' ∧ (mm = q.toNat) ∧ (Guess zs ys ys.length ((((zs).getD ((ys).length) 0) * 1000000000) + ((zs).getD ((ys).length - 1) 0)) q)) (_) (fun a ha => ⟨(min (((((zs).getD ((ys).length) 0) * 1000000000) + ((zs).getD ((ys).length - 1) 0)) / ((ys).getD ((ys).length - 1) 0)) 999999999), ha.sub (Sub.cons (t := 0) rfl (.cons (t := 1) rfl (.cons (t := 5) (look_int (t := 5) rfl (by first | omega | simp)) (.cons (t := 6) rfl (.cons (t := 7) (look_int (t := 7) rfl (by first | omega | simp)) (.nil)))))), Chg.refl _ _ _, rfl, guess_init h2 hzl rfl hz hy hv1 hU rfl⟩) ?_
 rintro mm aa wl8 ⟨q, hAwl8, cwl8, hm, hg⟩
 refine (show cw Tryz.prog 81 _ _ _ wl8 from ?_) aa hAwl8
 clear hAwl8
 have zwl8 := cwl8.size
 have hq0 := hg.q0
 have hq1 := hg.q1
 have hqv := hg.qv
 have m1 := mul_limb hq0 (by omega) b1.1 b1.2
 have m2 := mul_limb hq0 (by omega) b2.1 b2.2
 refine sx_seq fun K9 k9 => ?_
 refine sx_seq fun K10 k10 => ?_
 by_cases ph44 : 0 < q
 ·
  by_cases ph44x1 : zs.getD ys.length 0 * 1000000000 + zs.getD (ys.length - 1) 0 - q * ys.getD (ys.length - 1) 0 < 1000000000
  ·
   have f11 := hva.ext d4
   have f12 := f11.ext cwl8
   have f13 := f6.ext cwl8
   refine dx_region (fun w' => Chg 0 0 wl8 w') (by kernel_rfl) (Chg.zero (Chg.drew _)) ?_
   have d14 := Chg.drew wl8
   have s14 : Chg 0 0 wl8 (World.drew wl8) := Chg.zero (Chg.drew _)
   have y14 : (World.drew wl8).heap.size = wl8.heap.size := rfl
   generalize World.drew wl8 = w14 at *
   have zw14 := d14.size
   refine dx_take 0 rfl rfl rfl rfl (by kernel_rfl) (by kernel_rfl) (by kernel_rfl) s14 (fun _ hS => px_move rfl) ?_
   refine dx_take 1 rfl rfl rfl rfl (by kernel_rfl) (by kernel_rfl) (by kernel_rfl) s14 (fun _ hS => px_gt rfl rfl) ?_
   refine dx_take 2 rfl rfl rfl rfl (by kernel_rfl) (by kernel_rfl) (by kernel_rfl) s14 (fun _ hS => px_move rfl) ?_
   have h44 : (0 : Int) < q := by omega
   refine dx_tmpPT (t := 31) rfl h44 ?_
   refine dx_takeG 3 rfl rfl rfl rfl rfl rfl (by kernel_rfl) (by kernel_rfl) (by kernel_rfl) s14 (fun _ hS => px_move rfl) ?_
   refine dx_takeG 4 rfl rfl rfl rfl rfl rfl (by kernel_rfl) (by kernel_rfl) (by kernel_rfl) s14 (fun _ hS => px_move rfl) ?_
   refine dx_takeG 5 rfl rfl rfl rfl rfl rfl (by kernel_rfl) (by kernel_rfl) (by kernel_rfl) s14 (fun _ hS => px_move rfl) ?_
   refine dx_takeG 6 rfl rfl rfl rfl rfl rfl (by kernel_rfl) (by kernel_rfl) (by kernel_rfl) s14 (fun _ hS => px_move rfl) ?_
   refine dx_takeG 7 rfl rfl rfl rfl rfl rfl (by kernel_rfl) (by kernel_rfl) (by kernel_rfl) s14 (fun _ hS => px_sub rfl rfl (by omega)) ?_
   refine dx_takeG 8 rfl rfl rfl rfl rfl rfl (by kernel_rfl) (by kernel_rfl) (by kernel_rfl) s14 (fun _ hS => px_index1 (j := (ys.length - 1)) rfl rfl (by omega) Tryz.underlying22 Tryz.sizeOf3 ((f13).chg hS (by omega)) (by omega)) ?_
   refine dx_takeG 9 rfl rfl rfl rfl rfl rfl (by kernel_rfl) (by kernel_rfl) (by kernel_rfl) s14 (fun _ hS => px_load rfl (((f13).chg hS (by omega)).load1 (at_int (by omega)) Tryz.isAgg3)) ?_
   refine dx_takeG 10 rfl rfl rfl rfl rfl rfl (by kernel_rfl) (by kernel_rfl) (by kernel_rfl) s14 (fun _ hS => px_mul rfl rfl (by omega)) ?_
   refine dx_takeG 11 rfl rfl rfl rfl rfl rfl (by kernel_rfl) (by kernel_rfl) (by kernel_rfl) s14 (fun _ hS => px_sub rfl rfl (by omega)) ?_
   refine dx_takeG 12 rfl rfl rfl rfl rfl rfl (by kernel_rfl) (by kernel_rfl) (by kernel_rfl) s14 (fun _ hS => px_lt rfl rfl) ?_
   refine dx_take 13 rfl rfl rfl rfl (by kernel_rfl) (by kernel_rfl) (by kernel_rfl) s14 (fun _ hS => px_pick rfl rfl) ?_
   refine dx_take 14 rfl rfl rfl rfl (by kernel_rfl) (by kernel_rfl) (by kernel_rfl) s14 (fun _ hS => px_move rfl) ?_
   have h44x1 : (((((zs).getD ((ys).length) 0) * 1000000000) + ((zs).getD ((ys).length - 1) 0)) - (q * ((ys).getD (ys.length - 1) 0)) : Int) < 1000000000 := by omega
   refine dx_tmpPT (t := 43) rfl h44x1 ?_
   refine dx_takeG 15 rfl rfl rfl rfl rfl rfl (by kernel_rfl) (by kernel_rfl) (by kernel_rfl) s14 (fun _ hS => px_move rfl) ?_
   refine dx_takeG 16 rfl rfl rfl rfl rfl rfl (by kernel_rfl) (by kernel_rfl) (by kernel_rfl) s14 (fun _ hS => px_move rfl) ?_
   refine dx_takeG 17 rfl rfl rfl rfl rfl rfl (by kernel_rfl) (by kernel_rfl) (by kernel_rfl) s14 (fun _ hS => px_move rfl) ?_
   refine dx_takeG 18 rfl rfl rfl rfl rfl rfl (by kernel_rfl) (by kernel_rfl) (by kernel_rfl) s14 (fun _ hS => px_sub rfl rfl (by omega)) ?_
   refine dx_takeG 19 rfl rfl rfl rfl rfl rfl (by kernel_rfl) (by kernel_rfl) (by kernel_rfl) s14 (fun _ hS => px_index1 (j := (ys.length - 2)) rfl rfl (by omega) Tryz.underlying22 Tryz.sizeOf3 ((f13).chg hS (by omega)) (by omega)) ?_
   refine dx_takeG 20 rfl rfl rfl rfl rfl rfl (by kernel_rfl) (by kernel_rfl) (by kernel_rfl) s14 (fun _ hS => px_load rfl (((f13).chg hS (by omega)).load1 (at_int (by omega)) Tryz.isAgg3)) ?_
   refine dx_takeG 21 rfl rfl rfl rfl rfl rfl (by kernel_rfl) (by kernel_rfl) (by kernel_rfl) s14 (fun _ hS => px_mul rfl rfl (by omega)) ?_
   refine dx_takeG 22 rfl rfl rfl rfl rfl rfl (by kernel_rfl) (by kernel_rfl) (by kernel_rfl) s14 (fun _ hS => px_move rfl) ?_
   refine dx_takeG 23 rfl rfl rfl rfl rfl rfl (by kernel_rfl) (by kernel_rfl) (by kernel_rfl) s14 (fun _ hS => px_move rfl) ?_
   refine dx_takeG 24 rfl rfl rfl rfl rfl rfl (by kernel_rfl) (by kernel_rfl) (by kernel_rfl) s14 (fun _ hS => px_move rfl) ?_
   refine dx_takeG 25 rfl rfl rfl rfl rfl rfl (by kernel_rfl) (by kernel_rfl) (by kernel_rfl) s14 (fun _ hS => px_move rfl) ?_
   refine dx_takeG 26 rfl rfl rfl rfl rfl rfl (by kernel_rfl) (by kernel_rfl) (by kernel_rfl) s14 (fun _ hS => px_sub rfl rfl (by omega)) ?_
   refine dx_takeG 27 rfl rfl rfl rfl rfl rfl (by kernel_rfl) (by kernel_rfl) (by kernel_rfl) s14 (fun _ hS => px_index1 (j := (ys.length - 1)) rfl rfl (by omega) Tryz.underlying22 Tryz.sizeOf3 ((f13).chg hS (by omega)) (by omega)) ?_
   refine dx_takeG 28 rfl rfl rfl rfl rfl rfl (by kernel_rfl) (by kernel_rfl) (by kernel_rfl) s14 (fun _ hS => px_load rfl (((f13).chg hS (by omega)).load1 (at_int (by omega)) Tryz.isAgg3)) ?_
   refine dx_takeG 29 rfl rfl rfl rfl rfl rfl (by kernel_rfl) (by kernel_rfl) (by kernel_rfl) s14 (fun _ hS => px_mul rfl rfl (by omega)) ?_
   refine dx_takeG 30 rfl rfl rfl rfl rfl rfl (by kernel_rfl) (by kernel_rfl) (by kernel_rfl) s14 (fun _ hS => px_sub rfl rfl (by omega)) ?_
   refine dx_takeG 31 rfl rfl rfl rfl rfl rfl (by kernel_rfl) (by kernel_rfl) (by kernel_rfl) s14 (fun _ hS => px_mul rfl rfl (by omega)) ?_
   refine dx_takeG 32 rfl rfl rfl rfl rfl rfl (by kernel_rfl) (by kernel_rfl) (by kernel_rfl) s14 (fun _ hS => px_move rfl) ?_
   refine dx_takeG 33 rfl rfl rfl rfl rfl rfl (by kernel_rfl) (by kernel_rfl) (by kernel_rfl) s14 (fun _ hS => px_move rfl) ?_
   refine dx_takeG 34 rfl rfl rfl rfl rfl rfl (by kernel_rfl) (by kernel_rfl) (by kernel_rfl) s14 (fun _ hS => px_sub rfl rfl (by omega)) ?_
   refine dx_takeG 35 rfl rfl rfl rfl rfl rfl (by kernel_rfl) (by kernel_rfl) (by kernel_rfl) s14 (fun _ hS => px_index1 (j := (ys.length - 2)) rfl rfl (by omega) Tryz.underlying22 Tryz.sizeOf3 ((f12.sv).chg hS (by omega)) (by omega)) ?_
   refine dx_takeG 36 rfl rfl rfl rfl rfl rfl (by kernel_rfl) (by kernel_rfl) (by kernel_rfl) s14 (fun _ hS => px_load rfl (((f12.sv).chg hS (by omega)).load1 (at_int (by omega)) Tryz.isAgg3)) ?_
   refine dx_takeG 37 rfl rfl rfl rfl rfl rfl (by kernel_rfl) (by kernel_rfl) (by kernel_rfl) s14 (fun _ hS => px_add rfl rfl (by omega)) ?_
   refine dx_takeG 38 rfl rfl rfl rfl rfl rfl (by kernel_rfl) (by kernel_rfl) (by kernel_rfl) s14 (fun _ hS => px_gt rfl rfl) ?_
   refine dx_take 39 rfl rfl rfl rfl (by kernel_rfl) (by kernel_rfl) (by kernel_rfl) s14 (fun _ hS => px_pick rfl rfl) ?_
   refine dx_done (by kernel_rfl) ?_
   refine q_n (k10 _ _ ?_)
   refine sx_sub (Sub.cons (t := 0) rfl (.cons (t := 1) rfl (.cons (t := 5) rfl (.cons (t := 6) rfl (.cons (t := 7) rfl (.cons (t := 68) rfl (.nil))))))) ?_
   refine sx_condP rfl (fun h44x2 => ?_) (fun h44x2 => ?_)
   ·
    refine sx_skip ?_
    refine q_n (k9 _ _ ?_)
    refine sx_block ?_
    refine sx_region ?_
    refine sm rfl rfl rfl rfl ?_
    refine sx_pure rfl rfl rfl (px_sub rfl rfl (by omega)) ?_
    refine sa rfl rfl rfl rfl ?_
    refine wl_nil ?_
    exact q_bn (fun a ha => ⟨_, by omega, (q - 1), ha.sub (Sub.cons (t := 0) rfl (.cons (t := 1) rfl (.cons (t := 5) rfl (.cons (t := 6) rfl (.cons (t := 7) (look_int (t := 7) rfl (by first | omega | simp)) (.nil)))))), (cwl8.t d14), rfl, guess_next h2 hzl rfl hz hy hv1 rfl hg (by omega) (by omega)⟩)
   ·
    refine sx_exit ?_
    refine q_e (q_e (q_bx (q_n (k7 _ _ ?_))))
    refine sx_seq fun K15 k15 => ?_
    refine sx_seq fun K16 k16 => ?_
    have hge := guess_end h2 hzl rfl hz hy hv1 rfl hg (by first | exact .inl (by omega) | exact .inr (.inl (by omega)) | exact .inr (.inr (by omega)))
    refine sx_region ?_
    refine sm rfl rfl rfl rfl ?_
    refine sm rfl rfl rfl rfl ?_
    refine sm rfl rfl rfl rfl ?_
    have f17 := f12.ext d14
    have f18 := f13.ext d14
    refine sx_call rfl rfl Tryz.call106 (c_subTimes f17 f18 (by omega) (by omega) (by assumption) (by assumption) (by omega) (by omega)) (fun v19 w19 p19 => ?_)
    obtain ⟨os19, rfl, ova_19, hs19, c19⟩ := p19
    have zw19 := c19.size
    have hol := hs19.1.trans hzl
    have hlmx := hs19.2.1
    have hst := step_sub hzl hz hy rfl hV hq0 hg.up hge hol hs19.2.1 hs19.2.2
    refine wl_nil (q_n (k16 _ _ ?_))
    refine sx_condP rfl (fun h47 => ?_) (fun h47 => ?_)
    ·
     have hs2 := hst.2 h47
     have hs3 := hs2.1
     refine sx_seq fun K20 k20 => sx_region ?_
     refine sm rfl rfl rfl rfl ?_
     refine sx_pure rfl rfl rfl (px_sub rfl rfl (by omega)) ?_
     refine sa rfl rfl rfl rfl ?_
     refine wl_nil (q_n (k20 _ _ ?_))
     refine sx_region ?_
     refine sm rfl rfl rfl rfl ?_
     refine sm rfl rfl rfl rfl ?_
     have f21 := f18.chg c19 (by omega)
     refine sx_call rfl rfl Tryz.call107 (c_addBack ova_19 f21 (by omega) (hol) (by assumption) (by assumption) (by omega) (by omega)) (fun v22 w22 p22 => ?_)
     obtain ⟨os22, rfl, ova_22, hs22, c22⟩ := p22
     have zw22 := c22.size
     have hfl := hs22.1.trans hol
     have hfin := hs2.2.2 _ hfl hs22.2.1 hs22.2.2
     refine wl_nil (q_n (k15 _ _ ?_))
     refine sx_sub (Sub.cons (t := 7) rfl (.nil)) ?_
     refine sx_seq fun K23 k23 => sx_region ?_
     refine sm rfl rfl rfl rfl ?_
     refine sa rfl rfl rfl rfl ?_
     refine wl_nil (q_n (k23 _ _ ?_))
     refine sx_retc ?_
     refine sx_ret1 Tryz.results96 rfl ?_
     have q24 := Chg.step (l := lva) (h := uva) (Chg.zero (l := lva) (h := uva) ((d4.t cwl8).t d14)) c19 (by omega)
     have q25 := Chg.step (l := lva) (h := uva) q24 c22 (by omega)
     exact ⟨_, by rw [hs2.2.1], ova_22, ⟨hfin.1, by omega, hfin.2⟩, q25⟩
    ·
     have hs1 := hst.1 (by omega)
     refine sx_skip ?_
     refine q_n (k15 _ _ ?_)
     refine sx_seq fun K26 k26 => sx_region ?_
     refine sm rfl rfl rfl rfl ?_
     refine sa rfl rfl rfl rfl ?_
     refine wl_nil (q_n (k26 _ _ ?_))
     refine sx_retc ?_
     refine sx_ret1 Tryz.results96 rfl ?_
     have q27 := Chg.step (l := lva) (h := uva) (Chg.zero (l := lva) (h := uva) ((d4.t cwl8).t d14)) c19 (by omega)
     exact ⟨_, by rw [hs1.1], ova_19, ⟨hs1.2.1, by omega, hs1.2.2⟩, q27⟩
  ·
   have f28 := hva.ext d4
   have f29 := f28.ext cwl8
   have f30 := f6.ext cwl8
   refine dx_region (fun w' => Chg 0 0 wl8 w') (by kernel_rfl) (Chg.zero (Chg.drew _)) ?_
   have d31 := Chg.drew wl8
   have s31 : Chg 0 0 wl8 (World.drew wl8) := Chg.zero (Chg.drew _)
   have y31 : (World.drew wl8).heap.size = wl8.heap.size := rfl
   generalize World.drew wl8 = w31 at *
   have zw31 := d31.size
   refine dx_take 0 rfl rfl rfl rfl (by kernel_rfl) (by kernel_rfl) (by kernel_rfl) s31 (fun _ hS => px_move rfl) ?_
   refine dx_take 1 rfl rfl rfl rfl (by kernel_rfl) (by kernel_rfl) (by kernel_rfl) s31 (fun _ hS => px_gt rfl rfl) ?_
   refine dx_take 2 rfl rfl rfl rfl (by kernel_rfl) (by kernel_rfl) (by kernel_rfl) s31 (fun _ hS => px_move rfl) ?_
   have h44 : (0 : Int) < q := by omega
   refine dx_tmpPT (t := 31) rfl h44 ?_
   refine dx_takeG 3 rfl rfl rfl rfl rfl rfl (by kernel_rfl) (by kernel_rfl) (by kernel_rfl) s31 (fun _ hS => px_move rfl) ?_
   refine dx_takeG 4 rfl rfl rfl rfl rfl rfl (by kernel_rfl) (by kernel_rfl) (by kernel_rfl) s31 (fun _ hS => px_move rfl) ?_
   refine dx_takeG 5 rfl rfl rfl rfl rfl rfl (by kernel_rfl) (by kernel_rfl) (by kernel_rfl) s31 (fun _ hS => px_move rfl) ?_
   refine dx_takeG 6 rfl rfl rfl rfl rfl rfl (by kernel_rfl) (by kernel_rfl) (by kernel_rfl) s31 (fun _ hS => px_move rfl) ?_
   refine dx_takeG 7 rfl rfl rfl rfl rfl rfl (by kernel_rfl) (by kernel_rfl) (by kernel_rfl) s31 (fun _ hS => px_sub rfl rfl (by omega)) ?_
   refine dx_takeG 8 rfl rfl rfl rfl rfl rfl (by kernel_rfl) (by kernel_rfl) (by kernel_rfl) s31 (fun _ hS => px_index1 (j := (ys.length - 1)) rfl rfl (by omega) Tryz.underlying22 Tryz.sizeOf3 ((f30).chg hS (by omega)) (by omega)) ?_
   refine dx_takeG 9 rfl rfl rfl rfl rfl rfl (by kernel_rfl) (by kernel_rfl) (by kernel_rfl) s31 (fun _ hS => px_load rfl (((f30).chg hS (by omega)).load1 (at_int (by omega)) Tryz.isAgg3)) ?_
   refine dx_takeG 10 rfl rfl rfl rfl rfl rfl (by kernel_rfl) (by kernel_rfl) (by kernel_rfl) s31 (fun _ hS => px_mul rfl rfl (by omega)) ?_
   refine dx_takeG 11 rfl rfl rfl rfl rfl rfl (by kernel_rfl) (by kernel_rfl) (by kernel_rfl) s31 (fun _ hS => px_sub rfl rfl (by omega)) ?_
   refine dx_takeG 12 rfl rfl rfl rfl rfl rfl (by kernel_rfl) (by kernel_rfl) (by kernel_rfl) s31 (fun _ hS => px_lt rfl rfl) ?_
   refine dx_take 13 rfl rfl rfl rfl (by kernel_rfl) (by kernel_rfl) (by kernel_rfl) s31 (fun _ hS => px_pick rfl rfl) ?_
   refine dx_take 14 rfl rfl rfl rfl (by kernel_rfl) (by kernel_rfl) (by kernel_rfl) s31 (fun _ hS => px_move rfl) ?_
   have h44x1 : ¬ ((((((zs).getD ((ys).length) 0) * 1000000000) + ((zs).getD ((ys).length - 1) 0)) - (q * ((ys).getD (ys.length - 1) 0)) : Int) < 1000000000) := by omega
   refine dx_tmpPF (t := 43) rfl h44x1 ?_
   refine dx_skip 15 rfl rfl rfl rfl rfl rfl rfl (by kernel_rfl) (by kernel_rfl) (by kernel_rfl) s31 ?_
   refine dx_skip 16 rfl rfl rfl rfl rfl rfl rfl (by kernel_rfl) (by kernel_rfl) (by kernel_rfl) s31 ?_
   refine dx_skip 17 rfl rfl rfl rfl rfl rfl rfl (by kernel_rfl) (by kernel_rfl) (by kernel_rfl) s31 ?_
   refine dx_skip 18 rfl rfl rfl rfl rfl rfl rfl (by kernel_rfl) (by kernel_rfl) (by kernel_rfl) s31 ?_
   refine dx_skip 19 rfl rfl rfl rfl rfl rfl rfl (by kernel_rfl) (by kernel_rfl) (by kernel_rfl) s31 ?_
   refine dx_skip 20 rfl rfl rfl rfl rfl rfl rfl (by kernel_rfl) (by kernel_rfl) (by kernel_rfl) s31 ?_
   refine dx_skip 21 rfl rfl rfl rfl rfl rfl rfl (by kernel_rfl) (by kernel_rfl) (by kernel_rfl) s31 ?_
   refine dx_skip 22 rfl rfl rfl rfl rfl rfl rfl (by kernel_rfl) (by kernel_rfl) (by kernel_rfl) s31 ?_
   refine dx_skip 23 rfl rfl rfl rfl rfl rfl rfl (by kernel_rfl) (by kernel_rfl) (by kernel_rfl) s31 ?_
   refine dx_skip 24 rfl rfl rfl rfl rfl rfl rfl (by kernel_rfl) (by kernel_rfl) (by kernel_rfl) s31 ?_
   refine dx_skip 25 rfl rfl rfl rfl rfl rfl rfl (by kernel_rfl) (by kernel_rfl) (by kernel_rfl) s31 ?_
   refine dx_skip 26 rfl rfl rfl rfl rfl rfl rfl (by kernel_rfl) (by kernel_rfl) (by kernel_rfl) s31 ?_
   refine dx_skip 27 rfl rfl rfl rfl rfl rfl rfl (by kernel_rfl) (by kernel_rfl) (by kernel_rfl) s31 ?_
   refine dx_skip 28 rfl rfl rfl rfl rfl rfl rfl (by kernel_rfl) (by kernel_rfl) (by kernel_rfl) s31 ?_
   refine dx_skip 29 rfl rfl rfl rfl rfl rfl rfl (by kernel_rfl) (by kernel_rfl) (by kernel_rfl) s31 ?_
   refine dx_skip 30 rfl rfl rfl rfl rfl rfl rfl (by kernel_rfl) (by kernel_rfl) (by kernel_rfl) s31 ?_
   refine dx_skip 31 rfl rfl rfl rfl rfl rfl rfl (by kernel_rfl) (by kernel_rfl) (by kernel_rfl) s31 ?_
   refine dx_skip 32 rfl rfl rfl rfl rfl rfl rfl (by kernel_rfl) (by kernel_rfl) (by kernel_rfl) s31 ?_
   refine dx_skip 33 rfl rfl rfl rfl rfl rfl rfl (by kernel_rfl) (by kernel_rfl) (by kernel_rfl) s31 ?_
   refine dx_skip 34 rfl rfl rfl rfl rfl rfl rfl (by kernel_rfl) (by kernel_rfl) (by kernel_rfl) s31 ?_
   refine dx_skip 35 rfl rfl rfl rfl rfl rfl rfl (by kernel_rfl) (by kernel_rfl) (by kernel_rfl) s31 ?_
   refine dx_skip 36 rfl rfl rfl rfl rfl rfl rfl (by kernel_rfl) (by kernel_rfl) (by kernel_rfl) s31 ?_
   refine dx_skip 37 rfl rfl rfl rfl rfl rfl rfl (by kernel_rfl) (by kernel_rfl) (by kernel_rfl) s31 ?_
   refine dx_skip 38 rfl rfl rfl rfl rfl rfl rfl (by kernel_rfl) (by kernel_rfl) (by kernel_rfl) s31 ?_
   refine dx_take 39 rfl rfl rfl rfl (by kernel_rfl) (by kernel_rfl) (by kernel_rfl) s31 (fun _ hS => px_pick rfl rfl) ?_
   refine dx_done (by kernel_rfl) ?_
   refine q_n (k10 _ _ ?_)
   refine sx_sub (Sub.cons (t := 0) rfl (.cons (t := 1) rfl (.cons (t := 5) rfl (.cons (t := 6) rfl (.cons (t := 7) rfl (.cons (t := 68) rfl (.nil))))))) ?_
   refine sx_condF rfl ?_
   refine sx_exit ?_
   refine q_e (q_e (q_bx (q_n (k7 _ _ ?_))))
   refine sx_seq fun K32 k32 => ?_
   refine sx_seq fun K33 k33 => ?_
   have hge := guess_end h2 hzl rfl hz hy hv1 rfl hg (by first | exact .inl (by omega) | exact .inr (.inl (by omega)) | exact .inr (.inr (by omega)))
   refine sx_region ?_
   refine sm rfl rfl rfl rfl ?_
   refine sm rfl rfl rfl rfl ?_
   refine sm rfl rfl rfl rfl ?_
   have f34 := f29.ext d31
   have f35 := f30.ext d31
   refine sx_call rfl rfl Tryz.call106 (c_subTimes f34 f35 (by omega) (by omega) (by assumption) (by assumption) (by omega) (by omega)) (fun v36 w36 p36 => ?_)
   obtain ⟨os36, rfl, ova_36, hs36, c36⟩ := p36
   have zw36 := c36.size
   have hol := hs36.1.trans hzl
   have hlmx := hs36.2.1
   have hst := step_sub hzl hz hy rfl hV hq0 hg.up hge hol hs36.2.1 hs36.2.2
   refine wl_nil (q_n (k33 _ _ ?_))
   refine sx_condP rfl (fun h47 => ?_) (fun h47 => ?_)
   ·
    have hs2 := hst.2 h47
    have hs3 := hs2.1
    refine sx_seq fun K37 k37 => sx_region ?_
    refine sm rfl rfl rfl rfl ?_
    refine sx_pure rfl rfl rfl (px_sub rfl rfl (by omega)) ?_
    refine sa rfl rfl rfl rfl ?_
    refine wl_nil (q_n (k37 _ _ ?_))
    refine sx_region ?_
    refine sm rfl rfl rfl rfl ?_
    refine sm rfl rfl rfl rfl ?_
    have f38 := f35.chg c36 (by omega)
    refine sx_call rfl rfl Tryz.call107 (c_addBack ova_36 f38 (by omega) (hol) (by assumption) (by assumption) (by omega) (by omega)) (fun v39 w39 p39 => ?_)
    obtain ⟨os39, rfl, ova_39, hs39, c39⟩ := p39
    have zw39 := c39.size
    have hfl := hs39.1.trans hol
    have hfin := hs2.2.2 _ hfl hs39.2.1 hs39.2.2
    refine wl_nil (q_n (k32 _ _ ?_))
    refine sx_sub (Sub.cons (t := 7) rfl (.nil)) ?_
    refine sx_seq fun K40 k40 => sx_region ?_
    refine sm rfl rfl rfl rfl ?_
    refine sa rfl rfl rfl rfl ?_
    refine wl_nil (q_n (k40 _ _ ?_))
    refine sx_retc ?_
    refine sx_ret1 Tryz.results96 rfl ?_
    have q41 := Chg.step (l := lva) (h := uva) (Chg.zero (l := lva) (h := uva) ((d4.t cwl8).t d31)) c36 (by omega)
    have q42 := Chg.step (l := lva) (h := uva) q41 c39 (by omega)
    exact ⟨_, by rw [hs2.2.1], ova_39, ⟨hfin.1, by omega, hfin.2⟩, q42⟩
   ·
    have hs1 := hst.1 (by omega)
    refine sx_skip ?_
    refine q_n (k32 _ _ ?_)
    refine sx_seq fun K43 k43 => sx_region ?_
    refine sm rfl rfl rfl rfl ?_
    refine sa rfl rfl rfl rfl ?_
    refine wl_nil (q_n (k43 _ _ ?_))
    refine sx_retc ?_
    refine sx_ret1 Tryz.results96 rfl ?_
    have q44 := Chg.step (l := lva) (h := uva) (Chg.zero (l := lva) (h := uva) ((d4.t cwl8).t d31)) c36 (by omega)
    exact ⟨_, by rw [hs1.1], ova_36, ⟨hs1.2.1, by omega, hs1.2.2⟩, q44⟩
 ·
  have f45 := hva.ext d4
  have f46 := f45.ext cwl8
  have f47 := f6.ext cwl8
  refine dx_region (fun w' => Chg 0 0 wl8 w') (by kernel_rfl) (Chg.zero (Chg.drew _)) ?_
  have d48 := Chg.drew wl8
  have s48 : Chg 0 0 wl8 (World.drew wl8) := Chg.zero (Chg.drew _)
  have y48 : (World.drew wl8).heap.size = wl8.heap.size := rfl
  generalize World.drew wl8 = w48 at *
  have zw48 := d48.size
  refine dx_take 0 rfl rfl rfl rfl (by kernel_rfl) (by kernel_rfl) (by kernel_rfl) s48 (fun _ hS => px_move rfl) ?_
  refine dx_take 1 rfl rfl rfl rfl (by kernel_rfl) (by kernel_rfl) (by kernel_rfl) s48 (fun _ hS => px_gt rfl rfl) ?_
  refine dx_take 2 rfl rfl rfl rfl (by kernel_rfl) (by kernel_rfl) (by kernel_rfl) s48 (fun _ hS => px_move rfl) ?_
  have h44 : ¬ ((0 : Int) < q) := by omega
  refine dx_tmpPF (t := 31) rfl h44 ?_
  refine dx_skip 3 rfl rfl rfl rfl rfl rfl rfl (by kernel_rfl) (by kernel_rfl) (by kernel_rfl) s48 ?_
  refine dx_skip 4 rfl rfl rfl rfl rfl rfl rfl (by kernel_rfl) (by kernel_rfl) (by kernel_rfl) s48 ?_
  refine dx_skip 5 rfl rfl rfl rfl rfl rfl rfl (by kernel_rfl) (by kernel_rfl) (by kernel_rfl) s48 ?_
  refine dx_skip 6 rfl rfl rfl rfl rfl rfl rfl (by kernel_rfl) (by kernel_rfl) (by kernel_rfl) s48 ?_
  refine dx_skip 7 rfl rfl rfl rfl rfl rfl rfl (by kernel_rfl) (by kernel_rfl) (by kernel_rfl) s48 ?_
  refine dx_skip 8 rfl rfl rfl rfl rfl rfl rfl (by kernel_rfl) (by kernel_rfl) (by kernel_rfl) s48 ?_
  refine dx_skip 9 rfl rfl rfl rfl rfl rfl rfl (by kernel_rfl) (by kernel_rfl) (by kernel_rfl) s48 ?_
  refine dx_skip 10 rfl rfl rfl rfl rfl rfl rfl (by kernel_rfl) (by kernel_rfl) (by kernel_rfl) s48 ?_
  refine dx_skip 11 rfl rfl rfl rfl rfl rfl rfl (by kernel_rfl) (by kernel_rfl) (by kernel_rfl) s48 ?_
  refine dx_skip 12 rfl rfl rfl rfl rfl rfl rfl (by kernel_rfl) (by kernel_rfl) (by kernel_rfl) s48 ?_
  refine dx_take 13 rfl rfl rfl rfl (by kernel_rfl) (by kernel_rfl) (by kernel_rfl) s48 (fun _ hS => px_pick rfl rfl) ?_
  refine dx_take 14 rfl rfl rfl rfl (by kernel_rfl) (by kernel_rfl) (by kernel_rfl) s48 (fun _ hS => px_move rfl) ?_
  refine dx_skip 15 rfl rfl rfl rfl rfl rfl rfl (by kernel_rfl) (by kernel_rfl) (by kernel_rfl) s48 ?_
  refine dx_skip 16 rfl rfl rfl rfl rfl rfl rfl (by kernel_rfl) (by kernel_rfl) (by kernel_rfl) s48 ?_
  refine dx_skip 17 rfl rfl rfl rfl rfl rfl rfl (by kernel_rfl) (by kernel_rfl) (by kernel_rfl) s48 ?_
  refine dx_skip 18 rfl rfl rfl rfl rfl rfl rfl (by kernel_rfl) (by kernel_rfl) (by kernel_rfl) s48 ?_
  refine dx_skip 19 rfl rfl rfl rfl rfl rfl rfl (by kernel_rfl) (by kernel_rfl) (by kernel_rfl) s48 ?_
  refine dx_skip 20 rfl rfl rfl rfl rfl rfl rfl (by kernel_rfl) (by kernel_rfl) (by kernel_rfl) s48 ?_
  refine dx_skip 21 rfl rfl rfl rfl rfl rfl rfl (by kernel_rfl) (by kernel_rfl) (by kernel_rfl) s48 ?_
  refine dx_skip 22 rfl rfl rfl rfl rfl rfl rfl (by kernel_rfl) (by kernel_rfl) (by kernel_rfl) s48 ?_
  refine dx_skip 23 rfl rfl rfl rfl rfl rfl rfl (by kernel_rfl) (by kernel_rfl) (by kernel_rfl) s48 ?_
  refine dx_skip 24 rfl rfl rfl rfl rfl rfl rfl (by kernel_rfl) (by kernel_rfl) (by kernel_rfl) s48 ?_
  refine dx_skip 25 rfl rfl rfl rfl rfl rfl rfl (by kernel_rfl) (by kernel_rfl) (by kernel_rfl) s48 ?_
  refine dx_skip 26 rfl rfl rfl rfl rfl rfl rfl (by kernel_rfl) (by kernel_rfl) (by kernel_rfl) s48 ?_
  refine dx_skip 27 rfl rfl rfl rfl rfl rfl rfl (by kernel_rfl) (by kernel_rfl) (by kernel_rfl) s48 ?_
  refine dx_skip 28 rfl rfl rfl rfl rfl rfl rfl (by kernel_rfl) (by kernel_rfl) (by kernel_rfl) s48 ?_
  refine dx_skip 29 rfl rfl rfl rfl rfl rfl rfl (by kernel_rfl) (by kernel_rfl) (by kernel_rfl) s48 ?_
  refine dx_skip 30 rfl rfl rfl rfl rfl rfl rfl (by kernel_rfl) (by kernel_rfl) (by kernel_rfl) s48 ?_
  refine dx_skip 31 rfl rfl rfl rfl rfl rfl rfl (by kernel_rfl) (by kernel_rfl) (by kernel_rfl) s48 ?_
  refine dx_skip 32 rfl rfl rfl rfl rfl rfl rfl (by kernel_rfl) (by kernel_rfl) (by kernel_rfl) s48 ?_
  refine dx_skip 33 rfl rfl rfl rfl rfl rfl rfl (by kernel_rfl) (by kernel_rfl) (by kernel_rfl) s48 ?_
  refine dx_skip 34 rfl rfl rfl rfl rfl rfl rfl (by kernel_rfl) (by kernel_rfl) (by kernel_rfl) s48 ?_
  refine dx_skip 35 rfl rfl rfl rfl rfl rfl rfl (by kernel_rfl) (by kernel_rfl) (by kernel_rfl) s48 ?_
  refine dx_skip 36 rfl rfl rfl rfl rfl rfl rfl (by kernel_rfl) (by kernel_rfl) (by kernel_rfl) s48 ?_
  refine dx_skip 37 rfl rfl rfl rfl rfl rfl rfl (by kernel_rfl) (by kernel_rfl) (by kernel_rfl) s48 ?_
  refine dx_skip 38 rfl rfl rfl rfl rfl rfl rfl (by kernel_rfl) (by kernel_rfl) (by kernel_rfl) s48 ?_
  refine dx_take 39 rfl rfl rfl rfl (by kernel_rfl) (by kernel_rfl) (by kernel_rfl) s48 (fun _ hS => px_pick rfl rfl) ?_
  refine dx_done (by kernel_rfl) ?_
  refine q_n (k10 _ _ ?_)
  refine sx_sub (Sub.cons (t := 0) rfl (.cons (t := 1) rfl (.cons (t := 5) rfl (.cons (t := 6) rfl (.cons (t := 7) rfl (.cons (t := 68) rfl (.nil))))))) ?_
  refine sx_condF rfl ?_
  refine sx_exit ?_
  refine q_e (q_e (q_bx (q_n (k7 _ _ ?_))))
  refine sx_seq fun K49 k49 => ?_
  refine sx_seq fun K50 k50 => ?_
  have hge := guess_end h2 hzl rfl hz hy hv1 rfl hg (by first | exact .inl (by omega) | exact .inr (.inl (by omega)) | exact .inr (.inr (by omega)))
  refine sx_region ?_
  refine sm rfl rfl rfl rfl ?_
  refine sm rfl rfl rfl rfl ?_
  refine sm rfl rfl rfl rfl ?_
  have f51 := f46.ext d48
  have f52 := f47.ext d48
  refine sx_call rfl rfl Tryz.call106 (c_subTimes f51 f52 (by omega) (by omega) (by assumption) (by assumption) (by omega) (by omega)) (fun v53 w53 p53 => ?_)
  obtain ⟨os53, rfl, ova_53, hs53, c53⟩ := p53
  have zw53 := c53.size
  have hol := hs53.1.trans hzl
  have hlmx := hs53.2.1
  have hst := step_sub hzl hz hy rfl hV hq0 hg.up hge hol hs53.2.1 hs53.2.2
  refine wl_nil (q_n (k50 _ _ ?_))
  refine sx_condP rfl (fun h47 => ?_) (fun h47 => ?_)
  ·
   have hs2 := hst.2 h47
   have hs3 := hs2.1
   refine sx_seq fun K54 k54 => sx_region ?_
   refine sm rfl rfl rfl rfl ?_
   refine sx_pure rfl rfl rfl (px_sub rfl rfl (by omega)) ?_
   refine sa rfl rfl rfl rfl ?_
   refine wl_nil (q_n (k54 _ _ ?_))
   refine sx_region ?_
   refine sm rfl rfl rfl rfl ?_
   refine sm rfl rfl rfl rfl ?_
   have f55 := f52.chg c53 (by omega)
   refine sx_call rfl rfl Tryz.call107 (c_addBack ova_53 f55 (by omega) (hol) (by assumption) (by assumption) (by omega) (by omega)) (fun v56 w56 p56 => ?_)
   obtain ⟨os56, rfl, ova_56, hs56, c56⟩ := p56
   have zw56 := c56.size
   have hfl := hs56.1.trans hol
   have hfin := hs2.2.2 _ hfl hs56.2.1 hs56.2.2
   refine wl_nil (q_n (k49 _ _ ?_))
   refine sx_sub (Sub.cons (t := 7) rfl (.nil)) ?_
   refine sx_seq fun K57 k57 => sx_region ?_
   refine sm rfl rfl rfl rfl ?_
   refine sa rfl rfl rfl rfl ?_
   refine wl_nil (q_n (k57 _ _ ?_))
   refine sx_retc ?_
   refine sx_ret1 Tryz.results96 rfl ?_
   have q58 := Chg.step (l := lva) (h := uva) (Chg.zero (l := lva) (h := uva) ((d4.t cwl8).t d48)) c53 (by omega)
   have q59 := Chg.step (l := lva) (h := uva) q58 c56 (by omega)
   exact ⟨_, by rw [hs2.2.1], ova_56, ⟨hfin.1, by omega, hfin.2⟩, q59⟩
  ·
   have hs1 := hst.1 (by omega)
   refine sx_skip ?_
   refine q_n (k49 _ _ ?_)
   refine sx_seq fun K60 k60 => sx_region ?_
   refine sm rfl rfl rfl rfl ?_
   refine sa rfl rfl rfl rfl ?_
   refine wl_nil (q_n (k60 _ _ ?_))
   refine sx_retc ?_
   refine sx_ret1 Tryz.results96 rfl ?_
   have q61 := Chg.step (l := lva) (h := uva) (Chg.zero (l := lva) (h := uva) ((d4.t cwl8).t d48)) c53 (by omega)
   exact ⟨_, by rw [hs1.1], ova_53, ⟨hs1.2.1, by omega, hs1.2.2⟩, q61⟩

theorem c_natDiv {w : World} {va : Value} {lva uva : Nat} {m : Nat} {vb : Value} {lvb uvb : Nat} {n : Nat} (hva : Sl w lva uva va (dg m)) (hvb : Sl w lvb uvb vb (dg n)) (hbm : (dg m).length ≤ 400) (hbn : (dg n).length ≤ 400) (hn0 : 0 < n) :
  Ret Tryz.prog 71 [va, vb] w fun v w' => ∃ s t, v = .tuple #[s, t] ∧ OwnI w' w.heap.size w'.heap.size s intT (dg (m / n)) ∧ OwnI w' w.heap.size w'.heap.size t intT (dg (m % n)) ∧ Chg 0 0 w w' := by
 have hva0 := hva.fit
 have hvb0 := hvb.fit
 have htp := dg_top hn0
 have hbt := (Lm_dg n).getD ((dg n).length - 1)
 refine sx_enter Tryz.func71 rfl Tryz.ntmps71 (Nat.le_of_ble_eq_true rfl) ?_
 refine sx_seq fun K1 k1 => sx_region ?_
 refine sa rfl rfl rfl rfl ?_
 refine sa rfl rfl rfl rfl ?_
 refine wl_nil (q_n (k1 _ _ ?_))
 refine sx_seq fun K2 k2 => ?_
 refine sx_seq fun K3 k3 => sx_region ?_
 refine sm rfl rfl rfl rfl ?_
 refine sm rfl rfl rfl rfl ?_
 refine sx_call rfl rfl Tryz.call73 (c_natCmp hva0 hvb0 (by omega)) (fun v4 w4 p4 => ?_)
 obtain ⟨rfl, c4⟩ := p4
 have zw4 := c4.size
 refine sx_pure rfl rfl rfl (px_lt rfl rfl) ?_
 refine wl_nil (q_n (k3 _ _ ?_))
 refine sx_condP rfl (fun h17 => ?_) (fun h17 => ?_)
 ·
  rw [cmpL_dg] at h17
  have hlt := cmpN_neg.1 h17
  refine sx_seq fun K5 k5 => sx_region ?_
  refine sx_lit0 rfl xelt22 (fun s6 ws6 ss6 fs6 cs6 => ?_)
  have zws6 := cs6.size
  refine sm rfl rfl rfl rfl ?_
  have f7 := hva0.ext c4
  have f8 := f7.ext cs6
  refine sx_call rfl rfl Tryz.call84 (c_natCopy f8 (by omega)) (fun v9 w9 p9 => ?_)
  obtain ⟨s9, rfl, os_9, c9⟩ := p9
  have zw9 := c9.size
  refine sa rfl rfl rfl rfl ?_
  refine sa rfl rfl rfl rfl ?_
  refine wl_nil (q_n (k5 _ _ ?_))
  refine sx_retc ?_
  refine q_r (sx_ret2 Tryz.results71 rfl rfl ?_)
  rw [Nat.div_eq_of_lt hlt, Nat.mod_eq_of_lt hlt, dg_zero]
  have f10 := fs6.ext c9
  exact ⟨_, _, rfl, (Own.mono f10 (by omega) (by omega)), (Own.mono os_9 (by omega) (by omega)), ((c4.t cs6).t c9)⟩
 ·
  rw [cmpL_dg] at h17
  have hge := Nat.le_of_not_lt (mt cmpN_neg.2 h17)
  have hab := len_le hge
  have hb0 := len_pos.2 hn0
  refine sx_skip ?_
  refine q_n (k2 _ _ ?_)
  refine sx_seq fun K11 k11 => ?_
  refine sx_seq fun K12 k12 => sx_region ?_
  refine sm rfl rfl rfl rfl ?_
  have f13 := hvb0.ext c4
  refine sx_pure rfl rfl rfl (px_len rfl Tryz.underlying22 f13) ?_
  refine sx_pure rfl rfl rfl (px_eq rfl rfl) ?_
  refine wl_nil (q_n (k12 _ _ ?_))
  refine sx_condP rfl (fun h20 => ?_) (fun h20 => ?_)
  ·
   refine sx_seq fun K14 k14 => sx_region ?_
   refine sm rfl rfl rfl rfl ?_
   refine sm rfl rfl rfl rfl ?_
   refine sx_pure rfl rfl rfl (px_index1 (j := 0) rfl rfl (by omega) Tryz.underlying22 Tryz.sizeOf3 f13 (by omega)) ?_
   refine sx_pure rfl rfl rfl (px_load rfl (f13.load1 (at_int (by omega)) Tryz.isAgg3)) ?_
   have f15 := hva0.ext c4
   refine sx_call rfl rfl Tryz.call94 (c_natSmall f15 (by omega) (by have h9 := one_limb (n := n) (by omega); omega)) (fun v16 w16 p16 => ?_)
   obtain ⟨s16, rfl, os_16, c16⟩ := p16
   have zw16 := c16.size
   refine sm rfl rfl rfl rfl ?_
   refine sx_pure rfl rfl rfl (px_extract (vs := [s16, .int .i64 ((m % (((dg n).getD 0 0)).toNat : Nat) : Int)]) rfl rfl) ?_
   refine sx_pure rfl rfl rfl (px_extract (vs := [s16, .int .i64 ((m % (((dg n).getD 0 0)).toNat : Nat) : Int)]) rfl rfl) ?_
   refine sa rfl rfl rfl rfl ?_
   refine sa rfl rfl rfl rfl ?_
   refine wl_nil (q_n (k14 _ _ ?_))
   refine sx_sub (Sub.cons (t := 0) rfl (.cons (t := 1) rfl (.cons (t := 4) rfl (.cons (t := 5) rfl (.cons (t := 6) rfl (.cons (t := 7) rfl (.nil))))))) ?_
   refine sx_seq fun K17 k17 => sx_region ?_
   refine sm rfl rfl rfl rfl ?_
   refine sm rfl rfl rfl rfl ?_
   refine sx_call rfl rfl Tryz.call95 (c_iNatOf (by have h9 := one_limb (n := n) (by omega); have h8 := Nat.mod_lt m (show 0 < ((dg n).getD 0 0).toNat by omega); omega)) (fun v18 w18 p18 => ?_)
   obtain ⟨s18, rfl, os_18, c18⟩ := p18
   have zw18 := c18.size
   refine sa rfl rfl rfl rfl ?_
   refine sa rfl rfl rfl rfl ?_
   refine wl_nil (q_n (k17 _ _ ?_))
   refine sx_retc ?_
   refine q_r (sx_ret2 Tryz.results71 rfl rfl ?_)
   have e1 := (one_limb (n := n) (by omega)).1
   have f19 := os_16.ext c18
   have r1 := f19
   have r2 := os_18
   rw [Int.toNat_natCast] at r2
   rw [e1] at r1 r2
   exact ⟨_, _, rfl, r1.mono (by omega) (by omega), r2.mono (by omega) (by omega), ((c4.t c16).t c18)⟩
  ·
   refine sx_skip ?_
   refine q_n (k11 _ _ ?_)
   refine sx_seq fun K20 k20 => sx_region ?_
   refine sm rfl rfl rfl rfl ?_
   refine sm rfl rfl rfl rfl ?_
   refine sx_pure rfl rfl rfl (px_len rfl Tryz.underlying22 f13) ?_
   refine sx_pure rfl rfl rfl (px_sub rfl rfl (by omega)) ?_
   refine sx_pure rfl rfl rfl (px_index1 (j := ((dg n).length - 1)) rfl rfl (by omega) Tryz.underlying22 Tryz.sizeOf3 f13 (by omega)) ?_
   refine sx_pure rfl rfl rfl (px_load rfl (f13.load1 (at_int (by omega)) Tryz.isAgg3)) ?_
   refine sx_pure rfl rfl rfl (px_add rfl rfl (by omega)) ?_
   refine sx_pure rfl rfl rfl (px_quo rfl rfl (by omega) (by omega) (by omega)) ?_
   refine sa rfl rfl rfl rfl ?_
   refine wl_nil (q_n (k20 _ _ ?_))
   refine sx_sub (Sub.cons (t := 0) rfl (.cons (t := 1) rfl (.cons (t := 4) rfl (.cons (t := 5) rfl (.cons (t := 8) rfl (.nil)))))) ?_
   refine sx_seq fun K21 k21 => ?_
   have hsb := scale_bd htp (by omega)
   generalize 1000000000 / (((dg n).getD ((dg n).length - 1) 0) + 1) = s at *
   have evs : vl [s] = s.toNat := by simp [vl]
   have hpos : 0 < n * s.toNat := Nat.mul_pos hn0 (by omega)
   refine sx_region ?_
   refine sm rfl rfl rfl rfl ?_
   refine sm rfl rfl rfl rfl ?_
   refine sx_lit1 rfl xelt22 rfl rfl (fun s22 ws22 ss22 fs22 cs22 => ?_)
   have ns22 := Own.norm (f := (Value.int .i64)) (zs := [s]) fs22
   have zws22 := cs22.size
   have f23 := hva0.ext c4
   have f24 := f23.ext cs22
   refine sx_call rfl rfl Tryz.call82 (c_natMulS f24 ns22.sv (by omega) (by simp only [List.length_cons, List.length_nil]; omega) (one_dg (by omega) (by omega))) (fun v25 w25 p25 => ?_)
   obtain ⟨s25, rfl, os_25, c25⟩ := p25
   have zw25 := c25.size
   refine sa rfl rfl rfl rfl ?_
   refine wl_nil (q_n (k21 _ _ ?_))
   refine sx_seq fun K26 k26 => ?_
   have f27 := os_25
   rw [evs] at f27
   refine sx_region ?_
   refine sm rfl rfl rfl rfl ?_
   refine sm rfl rfl rfl rfl ?_
   refine sx_lit1 rfl xelt22 rfl rfl (fun s28 ws28 ss28 fs28 cs28 => ?_)
   have ns28 := Own.norm (f := (Value.int .i64)) (zs := [s]) fs28
   have zws28 := cs28.size
   have f29 := f13.ext cs22
   have f30 := f29.ext c25
   have f31 := f30.ext cs28
   refine sx_call rfl rfl Tryz.call82 (c_natMulS f31 ns28.sv (by omega) (by simp only [List.length_cons, List.length_nil]; omega) (one_dg (by omega) (by omega))) (fun v32 w32 p32 => ?_)
   obtain ⟨s32, rfl, os_32, c32⟩ := p32
   have zw32 := c32.size
   refine sa rfl rfl rfl rfl ?_
   refine wl_nil (q_n (k26 _ _ ?_))
   refine sx_sub (Sub.cons (t := 0) rfl (.cons (t := 4) rfl (.cons (t := 5) rfl (.cons (t := 8) rfl (.cons (t := 9) rfl (.cons (t := 10) rfl (.nil))))))) ?_
   refine sx_seq fun K33 k33 => ?_
   refine sx_block ?_
   have f34 := os_32
   rw [evs] at f34
   have hlv := scale_len hn0 hsb.1 hsb.2.2
   have hlu := len_mul m s.toNat
   have hl1 : (dg s.toNat).length ≤ 1 := dg_len_le (by simp only [Bs]; omega)
   have f36 := f27.ext cs28
   have f37 := f36.ext c32
   refine sx_loop (fun mm aa w' => ∃ (su : Value) (us : List Int) (gl : Nat) (gh : Nat), Agr 97 [(0, va), (8, .int .i64 s), (9, su), (10, v32)] aa ∧ Chg ws22.heap.size w32.heap.size w32 w' ∧ Own w' gl gh su intT us.length 1 (us.map (Value.int .i64)) ∧ Own w' ws28.heap.size w32.heap.size v32 intT ((dg (n * s.toNat)).length) 1 ((dg (n * s.toNat)).map (Value.int .i64)) ∧ (mm = (dg m).length + 1 - us.length) ∧ ((gl = ws22.heap.size ∧ gh = w25.heap.size) ∨ w32.heap.size ≤ gl) ∧ (gl ≤ w'.heap.size ∧ gh ≤ w'.heap.size) ∧ (Lm us) ∧ (vl us = m * s.toNat) ∧ (us.length ≤ (dg m).length + 1)) (_) (fun a ha => ⟨v25, dg (m * s.toNat), ws22.heap.size, w25.heap.size, ha.sub (Sub.cons (t := 0) rfl (.cons (t := 8) rfl (.cons (t := 9) rfl (.cons (t := 10) rfl (.nil))))), Chg.refl _ _ _, f37, f34, rfl, .inl ⟨rfl, rfl⟩, by omega, Lm_dg _, vl_dg _, by omega⟩) ?_
   rintro mm aa wl35 ⟨su, us, gl, gh, hAwl35, cwl35, hs_su, hs_v32, hm, hgl, hgh, hlm, hv, hul⟩
   refine (show cw Tryz.prog 97 _ _ _ wl35 from ?_) aa hAwl35
   clear hAwl35
   have zwl35 := cwl35.size
   refine sx_seq fun K38 k38 => ?_
   refine sx_seq fun K39 k39 => sx_region ?_
   refine sm rfl rfl rfl rfl ?_
   refine sx_pure rfl rfl rfl (px_len rfl Tryz.underlying22 hs_su.sv) ?_
   refine sm rfl rfl rfl rfl ?_
   have f40 := f24.ext c25
   have f41 := f40.ext cs28
   have f42 := f41.ext c32
   have f43 := f42.chg cwl35 (by omega)
   refine sx_pure rfl rfl rfl (px_len rfl Tryz.underlying22 f43) ?_
   refine sx_pure rfl rfl rfl (px_le rfl rfl) ?_
   refine wl_nil (q_n (k39 _ _ ?_))
   refine sx_condP rfl (fun h27 => ?_) (fun h27 => ?_)
   ·
    refine sx_skip ?_
    refine q_n (k38 _ _ ?_)
    refine sx_block ?_
    refine sx_region ?_
    refine sm rfl rfl rfl rfl ?_
    refine sx_lit1 rfl xelt22 rfl rfl (fun s44 ws44 ss44 fs44 cs44 => ?_)
    have ns44 := Own.norm (f := (Value.int .i64)) (zs := [0]) fs44
    have zws44 := cs44.size
    have f46 := hs_su.ext cs44
    refine sx_append2 rfl xelt22 rfl rfl f46 ns44.sv (by simp) one_int (by omega) (by simp only [List.length_cons, List.length_nil]; omega) (by unfold maxLen; simp only [List.length_cons, List.length_nil]; omega) (fun a45 w45 alw45 ahw45 adw45 fw45 cw45 => ?_)
    have nw45 := Own.app (f := (Value.int .i64)) (a := us) (b := [0]) fw45
    have zw45 := cw45.size
    refine sa rfl rfl rfl rfl ?_
    refine wl_nil ?_
    have q47 := Chg.step (l := ws22.heap.size) (h := w32.heap.size) cwl35 cs44 (by omega)
    have q48 := Chg.step (l := ws22.heap.size) (h := w32.heap.size) q47 cw45 (by omega)
    have f49 := hs_v32.ext cs44
    have f50 := f49.chg cw45 (by omega)
    have happ : (us ++ ([0])).length = us.length + 1 := by simp
    exact q_bn (fun a ha => ⟨_, by omega, a45, (us ++ ([0])), alw45, ahw45, ha.sub (Sub.cons (t := 0) rfl (.cons (t := 8) rfl (.cons (t := 9) rfl (.cons (t := 10) rfl (.nil))))), q48, (nw45.mono (by omega) (by omega)), (f50.mono (by omega) (by omega)), rfl, by omega, by omega, hlm.append (Lm.single (by decide) (by decide)), by rw [vl_concat]; simpa using hv, by simp only [List.length_append, List.length_cons, List.length_nil]; omega⟩)
   ·
    refine sx_exit ?_
    refine q_e (q_e (q_bx (q_n (k33 _ _ ?_))))
    refine sx_seq fun K51 k51 => ?_
    have hul2 : us.length = (dg m).length + 1 := by omega
    refine sx_region ?_
    refine sm rfl rfl rfl rfl ?_
    refine sx_pure rfl rfl rfl (px_len rfl Tryz.underlying22 hs_v32.sv) ?_
    refine sa rfl rfl rfl rfl ?_
    refine wl_nil (q_n (k51 _ _ ?_))
    refine sx_seq fun K52 k52 => sx_region ?_
    refine sm rfl rfl rfl rfl ?_
    refine sx_pure rfl rfl rfl (px_len rfl Tryz.underlying22 hs_su.sv) ?_
    refine sm rfl rfl rfl rfl ?_
    refine sx_pure rfl rfl rfl (px_sub rfl rfl (by omega)) ?_
    refine sx_make (c := (us.length - (dg (n * s.toNat)).length)) rfl xelt22 (look_int rfl (by omega)) (look_int rfl (by omega)) (by omega) (by unfold maxLen; omega) (fun s53 ws53 fs53 cs53 ls53 => ?_)
    have ns53 := fs53.made
    have zws53 := cs53.size
    refine sa rfl rfl rfl rfl ?_
    refine wl_nil (q_n (k52 _ _ ?_))
    refine sx_sub (Sub.cons (t := 8) rfl (.cons (t := 9) rfl (.cons (t := 10) rfl (.cons (t := 11) rfl (.cons (t := 12) rfl (.nil)))))) ?_
    refine sx_seq fun K54 k54 => ?_
    refine sx_seq fun K55 k55 => ?_
    have hrl : (List.replicate (us.length - (dg (n * s.toNat)).length) (0 : Int)).length = us.length - (dg (n * s.toNat)).length := List.length_replicate
    refine sx_region ?_
    refine sm rfl rfl rfl rfl ?_
    refine sx_pure rfl rfl rfl (px_len rfl Tryz.underlying22 ns53.sv) ?_
    refine sx_pure rfl rfl rfl (px_sub rfl rfl (by omega)) ?_
    refine sa rfl rfl rfl rfl ?_
    refine wl_nil (q_n (k55 _ _ ?_))
    refine sx_block ?_
    have f57 := hs_su.ext cs53
    have f58 := hs_v32.ext cs53
    refine sx_loop (fun mm aa w' => ∃ (k : Nat) (U : List Int) (qs : List Int), Agr 97 [(8, .int .i64 s), (9, su), (10, v32), (11, .int .i64 (↑(dg (n * s.toNat)).length)), (12, s53), (13, .int .i64 (↑k - 1))] aa ∧ Chg ws22.heap.size ws53.heap.size ws53 w' ∧ Own w' gl gh su intT U.length 1 (U.map (Value.int .i64)) ∧ Own w' wl35.heap.size ws53.heap.size s53 intT qs.length 1 (qs.map (Value.int .i64)) ∧ Own w' ws28.heap.size w32.heap.size v32 intT ((dg (n * s.toNat)).length) 1 ((dg (n * s.toNat)).map (Value.int .i64)) ∧ (mm = k) ∧ (k ≤ ((dg m).length + 1 - (dg n).length)) ∧ (qs.length = ((dg m).length + 1 - (dg n).length)) ∧ (U.length = (dg m).length + 1) ∧ (Lm U) ∧ (Lm qs) ∧ (vl (U.drop k) < n * s.toNat) ∧ (m * s.toNat = vl U + Bs ^ k * (n * s.toNat * vl (qs.drop k)))) (_) (fun a ha => ⟨((dg m).length + 1 - (dg n).length), us, List.replicate (us.length - (dg (n * s.toNat)).length) 0, ha.sub (Sub.cons (t := 8) rfl (.cons (t := 9) rfl (.cons (t := 10) rfl (.cons (t := 11) (look_int (t := 11) rfl (by first | omega | (simp only [List.length_replicate]; omega) | simp)) (.cons (t := 12) rfl (.cons (t := 13) (look_int (t := 13) rfl (by first | omega | (simp only [List.length_replicate]; omega) | simp)) (.nil))))))), Chg.refl _ _ _, f57, ns53, f58, rfl, by omega, by rw [List.length_replicate]; omega, by omega, by omega, Lm.replicate _, top_init hul2 rfl rfl (len_pos.2 hn0) (by omega) (by omega) hv, by rw [vl_drop_end (by rw [List.length_replicate]; omega)]; simpa using hv.symm⟩) ?_
    rintro mm aa wl56 ⟨k, U, qs, hAwl56, cwl56, hs_su, hs_s53, hs_v32, hm, hk, hql, hUl, hUm, hQm, htp, hV⟩
    refine (show cw Tryz.prog 97 _ _ _ wl56 from ?_) aa hAwl56
    clear hAwl56
    have zwl56 := cwl56.size
    refine sx_seq fun K59 k59 => ?_
    refine sx_seq fun K60 k60 => sx_region ?_
    refine sm rfl rfl rfl rfl ?_
    refine sx_pure rfl rfl rfl (px_ge rfl rfl) ?_
    refine wl_nil (q_n (k60 _ _ ?_))
    refine sx_condP rfl (fun h32 => ?_) (fun h32 => ?_)
    ·
     refine sx_skip ?_
     refine q_n (k59 _ _ ?_)
     refine sx_seq fun K61 k61 => ?_
     refine sx_block ?_
     have hw := win_of (j := k - 1) (n := (dg (n * s.toNat)).length) hUm (by omega) (lt_of_dg_len (Nat.le_refl _)) (by rw [Nat.sub_add_cancel (by omega)]; exact htp)
     refine sx_region ?_
     refine sm rfl rfl rfl rfl ?_
     refine sm rfl rfl rfl rfl ?_
     refine sm rfl rfl rfl rfl ?_
     refine sm rfl rfl rfl rfl ?_
     refine sm rfl rfl rfl rfl ?_
     refine sm rfl rfl rfl rfl ?_
     refine sx_pure rfl rfl rfl (px_add rfl rfl (by omega)) ?_
     refine sx_pure rfl rfl rfl (px_add rfl rfl (by omega)) ?_
     obtain ⟨suf62, hw62, hb62⟩ := Own.win hs_su (a := (k - 1)) (b := (k - 1 + (dg (n * s.toNat)).length + 1)) (by omega) (by omega)
     refine sx_pure rfl rfl rfl (px_sliceMid (l := (k - 1)) (h := (k - 1 + (dg (n * s.toNat)).length + 1)) rfl rfl rfl (by omega) (by omega) Tryz.underlying22 Tryz.sizeOf3 hs_su.sv (by omega) (by omega)) ?_
     refine sm rfl rfl rfl rfl ?_
     refine sx_call rfl rfl Tryz.call96 (c_divStep hw62 hs_v32.sv (by omega) (by rw [List.length_take, List.length_drop]; omega) (by omega) (Lm.take (Lm.drop hUm _) _) (Lm_dg _) (dg_getD_pos hpos rfl) (by rw [vl_dg, hw.1]; exact hw.2.1) (by rw [List.length_take, List.length_drop]; omega)) (fun v63 w63 p63 => ?_)
     obtain ⟨os63, rfl, ova_63, hs63, c63⟩ := p63
     have zw63 := c63.size
     have f64 := hb62 _ _ ova_63
     have hol := hs63.2.1
     rw [List.length_take, List.length_drop] at hol
     have hdl := hs63.1
     have hp := div_put (us := U) (qs := qs) (ys := os63) (n := (dg (n * s.toNat)).length) (V := n * s.toNat) (by omega) (by omega) (by omega) rfl hw.2.2 (by omega) (by rw [hs63.2.2, hw.1, vl_dg]) hV
     have hqd : vl ((U.drop (k - 1)).take (k - 1 + (dg (n * s.toNat)).length + 1 - (k - 1))) / vl (dg (n * s.toNat)) < 1000000000 := by rw [hw.1, vl_dg]; exact (Nat.div_lt_iff_lt_mul hpos).2 hw.2.1
     have hqn : (0 : Int) ≤ ((vl ((U.drop (k - 1)).take (k - 1 + (dg (n * s.toNat)).length + 1 - (k - 1))) / vl (dg (n * s.toNat)) : Nat) : Int) := Int.natCast_nonneg _
     have f65 := hs_s53.chg c63 (by omega)
     refine sx_pure rfl rfl rfl (px_index1 (j := (k - 1)) rfl rfl (by omega) Tryz.underlying22 Tryz.sizeOf3 f65.sv (by omega)) ?_
     refine sx_storeO rfl rfl f65 (by first | omega | (simp only [List.length_map]; omega)) Tryz.sizeOf3 rfl (fun w66 sw66 fw66 cw66 => ?_)
     have zw66 := cw66.size
     have nw66 := fw66.set
     refine wl_nil ?_
     refine q_bn (q_n (k61 _ _ ?_))
     refine sx_sub (Sub.cons (t := 8) rfl (.cons (t := 9) rfl (.cons (t := 10) rfl (.cons (t := 11) rfl (.cons (t := 12) rfl (.cons (t := 13) rfl (.nil))))))) ?_
     refine sx_region ?_
     refine sm rfl rfl rfl rfl ?_
     refine sx_pure rfl rfl rfl (px_sub rfl rfl (by omega)) ?_
     refine sa rfl rfl rfl rfl ?_
     refine wl_nil ?_
     have q67 := Chg.step (l := ws22.heap.size) (h := ws53.heap.size) cwl56 c63 (by omega)
     have q68 := Chg.step (l := ws22.heap.size) (h := ws53.heap.size) q67 cw66 (by omega)
     have f69 := f64.chg cw66 (by omega)
     have f70 := hs_v32.chg c63 (by omega)
     have f71 := f70.chg cw66 (by omega)
     exact fun a ha => ⟨_, by omega, (k - 1), (U.take (k - 1) ++ os63 ++ U.drop (k - 1 + (dg (n * s.toNat)).length + 1)), ((qs).set (k - 1) ((vl ((U.drop (k - 1)).take ((k - 1 + (dg (n * s.toNat)).length + 1) - (k - 1))) / vl (dg (n * s.toNat)) : Nat) : Int)), ha.sub (Sub.cons (t := 8) rfl (.cons (t := 9) rfl (.cons (t := 10) rfl (.cons (t := 11) rfl (.cons (t := 12) rfl (.cons (t := 13) (look_int (t := 13) rfl (by first | omega | (simp only [List.length_replicate]; omega) | simp)) (.nil))))))), q68, (f69.mono (by omega) (by omega)), (nw66.mono (by omega) (by omega)), (f71.mono (by omega) (by omega)), rfl, by omega, by rw [List.length_set]; exact hql, by simp only [List.length_append, List.length_take, List.length_drop]; omega, ((hUm.take _).append hdl).append (Lm.drop hUm _), hQm.set _ (by omega) (by omega), by rw [hp.1]; exact Nat.mod_lt _ hpos, by rw [hw.1, vl_dg]; exact hp.2⟩
    ·
     refine sx_exit ?_
     refine q_e (q_e (q_bx (q_n (k54 _ _ ?_))))
     refine sx_seq fun K72 k72 => ?_
     have ek : k = 0 := by omega
     subst ek
     rw [List.drop_zero] at hV htp
     have hse := scaled_end (s := s.toNat) (by omega) hn0 hV htp
     have e1 : vl U / s.toNat = m % n := by rw [hse.2, Nat.mul_div_cancel _ (by omega)]
     refine sx_region ?_
     refine sm rfl rfl rfl rfl ?_
     refine sx_call rfl rfl Tryz.call97 (c_trim hs_su (by assumption) (by first | omega | (simp only [List.length_append, List.length_set, List.length_replicate, List.length_cons, List.length_nil] at *; omega))) (fun v73 w73 p73 => ?_)
     obtain ⟨s73, rfl, os_73, c73⟩ := p73
     have zw73 := c73.size
     refine sm rfl rfl rfl rfl ?_
     refine sx_call rfl rfl Tryz.call94 (c_natSmall os_73.sv (Nat.le_trans (dg_len_le (vl_lt hUm)) (by omega)) (by omega)) (fun v74 w74 p74 => ?_)
     obtain ⟨s74, rfl, os_74, c74⟩ := p74
     have zw74 := c74.size
     refine sm rfl rfl rfl rfl ?_
     refine sx_pure rfl rfl rfl (px_extract (vs := [s74, .int .i64 (((vl U) % (s).toNat : Nat) : Int)]) rfl rfl) ?_
     refine sx_pure rfl rfl rfl (px_extract (vs := [s74, .int .i64 (((vl U) % (s).toNat : Nat) : Int)]) rfl rfl) ?_
     refine sa rfl rfl rfl rfl ?_
     refine sa rfl rfl rfl rfl ?_
     refine wl_nil (q_n (k72 _ _ ?_))
     refine sx_sub (Sub.cons (t := 12) rfl (.cons (t := 14) rfl (.nil))) ?_
     refine sx_seq fun K75 k75 => sx_region ?_
     refine sm rfl rfl rfl rfl ?_
     have f76 := hs_s53.ext c73
     have f77 := f76.ext c74
     refine sx_call rfl rfl Tryz.call97 (c_trim f77 (by assumption) (by first | omega | (simp only [List.length_append, List.length_set, List.length_replicate, List.length_cons, List.length_nil] at *; omega))) (fun v78 w78 p78 => ?_)
     obtain ⟨s78, rfl, os_78, c78⟩ := p78
     have zw78 := c78.size
     refine sm rfl rfl rfl rfl ?_
     refine sa rfl rfl rfl rfl ?_
     refine sa rfl rfl rfl rfl ?_
     refine wl_nil (q_n (k75 _ _ ?_))
     refine sx_retc ?_
     refine sx_ret2 Tryz.results71 rfl rfl ?_
     have r1 := os_78
     have f79 := os_74.ext c78
     have r2 := f79
     rw [hse.1] at r1
     rw [e1] at r2
     have q80 := Chg.step (l := 0) (h := 0) (Chg.zero (l := 0) (h := 0) ((((c4.t cs22).t c25).t cs28).t c32)) cwl35 (by omega)
     have q81 := Chg.step (l := 0) (h := 0) q80 cs53 (by omega)
     have q82 := Chg.step (l := 0) (h := 0) q81 cwl56 (by omega)
     have q83 := Chg.step (l := 0) (h := 0) q82 ((c73.t c74).t c78) (by omega)
     exact ⟨_, _, rfl, r1.mono (by omega) (by omega), r2.mono (by omega) (by omega), q83⟩

theorem c_natGcd {w : World} {va : Value} {lva uva : Nat} {m : Nat} {vb : Value} {lvb uvb : Nat} {n : Nat} (hva : Sl w lva uva va (dg m)) (hvb : Sl w lvb uvb vb (dg n)) (hbm : (dg m).length ≤ 400) (hbn : (dg n).length ≤ 400) :
  Ret Tryz.prog 70 [va, vb] w fun v w' => ∃ s, v = s ∧ OwnI w' w.heap.size w'.heap.size s intT (dg (Nat.gcd m n)) ∧ Chg 0 0 w w' := by
 have hva0 := hva.fit
 have hvb0 := hvb.fit
 refine sx_enter Tryz.func70 rfl Tryz.ntmps70 (Nat.le_of_ble_eq_true rfl) ?_
 refine sx_seq fun K1 k1 => sx_region ?_
 refine sa rfl rfl rfl rfl ?_
 refine wl_nil (q_n (k1 _ _ ?_))
 refine sx_seq fun K2 k2 => ?_
 refine sx_block ?_
 refine sx_loop (fun mm aa w' => ∃ (xa : Value) (xb : Value) (m2 : Nat) (n2 : Nat), Agr 20 [(0, xa), (1, xb)] aa ∧ Chg 0 0 w w' ∧ Sv w' 0 w'.heap.size xa ((dg m2).length) 1 ((dg m2).map (Value.int .i64)) ∧ Sv w' 0 w'.heap.size xb ((dg n2).length) 1 ((dg n2).map (Value.int .i64)) ∧ (mm = n2) ∧ (Nat.gcd m2 n2 = Nat.gcd m n) ∧ ((dg m2).length ≤ 400 ∧ (dg n2).length ≤ 400)) (_) (fun a ha => ⟨va, vb, m, n, ha.sub (Sub.cons (t := 0) rfl (.cons (t := 1) rfl (.nil))), Chg.refl _ _ _, (hva0.mono (by omega) (by omega)), (hvb0.mono (by omega) (by omega)), rfl, rfl, by omega⟩) ?_
 rintro mm aa wl3 ⟨xa, xb, m2, n2, hAwl3, cwl3, hs_xa, hs_xb, hm, hg, hl2⟩
 refine (show cw Tryz.prog 20 _ _ _ wl3 from ?_) aa hAwl3
 clear hAwl3
 have zwl3 := cwl3.size
 refine sx_seq fun K4 k4 => ?_
 refine sx_seq fun K5 k5 => sx_region ?_
 refine sm rfl rfl rfl rfl ?_
 refine sx_pure rfl rfl rfl (px_len rfl Tryz.underlying22 hs_xb) ?_
 refine sx_pure rfl rfl rfl (px_gt rfl rfl) ?_
 refine wl_nil (q_n (k5 _ _ ?_))
 refine sx_condP rfl (fun h91 => ?_) (fun h91 => ?_)
 ·
  have hn0 : 0 < n2 := len_pos.1 (by omega)
  refine sx_skip ?_
  refine q_n (k4 _ _ ?_)
  refine sx_block ?_
  refine sx_seq fun K6 k6 => sx_region ?_
  refine sm rfl rfl rfl rfl ?_
  refine sm rfl rfl rfl rfl ?_
  refine sx_call rfl rfl Tryz.call71 (c_natDiv hs_xa hs_xb (by omega) (by omega) (by omega)) (fun v7 w7 p7 => ?_)
  obtain ⟨s7, t7, rfl, os_7, ot_7, c7⟩ := p7
  have zw7 := c7.size
  refine sm rfl rfl rfl rfl ?_
  refine sx_pure rfl rfl rfl (px_extract (vs := [s7, t7]) rfl rfl) ?_
  refine sx_pure rfl rfl rfl (px_extract (vs := [s7, t7]) rfl rfl) ?_
  refine sa rfl rfl rfl rfl ?_
  refine sa rfl rfl rfl rfl ?_
  refine wl_nil (q_n (k6 _ _ ?_))
  refine sx_region ?_
  refine sm rfl rfl rfl rfl ?_
  refine sm rfl rfl rfl rfl ?_
  refine sa rfl rfl rfl rfl ?_
  refine sa rfl rfl rfl rfl ?_
  refine wl_nil ?_
  have f8 := hs_xb.ext c7
  have hml := Nat.mod_lt m2 hn0
  have hll := len_mod (m := m2) hn0
  exact q_bn (fun a ha => ⟨_, by omega, xb, t7, n2, (m2 % n2), ha.sub (Sub.cons (t := 0) rfl (.cons (t := 1) rfl (.nil))), (cwl3.t c7), (f8.mono (by omega) (by omega)), (ot_7.sv.mono (by omega) (by omega)), rfl, gcd_next.trans hg, by omega⟩)
 ·
  refine sx_exit ?_
  refine q_e (q_e (q_bx (q_n (k2 _ _ ?_))))
  refine sx_seq fun K9 k9 => sx_region ?_
  refine sm rfl rfl rfl rfl ?_
  refine sx_call rfl rfl Tryz.call84 (c_natCopy hs_xa (by omega)) (fun v10 w10 p10 => ?_)
  obtain ⟨s10, rfl, os_10, c10⟩ := p10
  have zw10 := c10.size
  refine sa rfl rfl rfl rfl ?_
  refine wl_nil (q_n (k9 _ _ ?_))
  refine sx_retc ?_
  refine sx_ret1 Tryz.results70 rfl ?_
  have e0 : n2 = 0 := len_zero.1 (by omega)
  subst e0
  rw [Nat.gcd_zero_right] at hg
  rw [← hg]
  exact ⟨_, rfl, (Own.mono os_10 (by omega) (by omega)), (cwl3.t c10)⟩

theorem c_iRatOk {w : World} {n1 : Bool} {v1 : Value} {lv1 uv1 : Nat} {z1 : List Int} {d1 : Value} {ld1 ud1 : Nat} {y1 : List Int} (hv1 : Sl w lv1 uv1 v1 (z1)) (hd1 : Sl w ld1 ud1 d1 (y1)) (h63 : z1.length ≤ 4611686018427387904 ∧ y1.length ≤ 4611686018427387904) :
  Ret Tryz.prog 45 [.agg #[.bool n1, v1, d1]] w fun v w' => v = .bool (decide (ROk n1 z1 y1)) ∧ Chg 0 0 w w' := by
 have hv10 := hv1.fit
 have hd10 := hd1.fit
 refine sx_enter Tryz.func45 rfl Tryz.ntmps45 (Nat.le_of_ble_eq_true rfl) ?_
 refine sx_seq fun K1 k1 => sx_region ?_
 refine sx_box [.bool n1, v1, d1] rfl rfl rfl (fun b2 w3 eb2 sb2 fb2 cb2 => ?_)
 have zw3 := cb2.size
 refine sa rfl rfl rfl rfl ?_
 refine wl_nil (q_n (k1 _ _ ?_))
 refine sx_seq fun K4 k4 => ?_
 refine sx_seq fun K5 k5 => sx_region ?_
 refine sx_pure rfl rfl rfl (px_field rfl xfld32x0) ?_
 refine sx_pure rfl rfl rfl (px_load rfl (fb2.loadA (vs := [.bool n1, v1]) (look_lit rfl) Tryz.isAgg28 Tryz.sizeOf28)) ?_
 have f6 := hv10.ext cb2
 refine sx_call rfl rfl Tryz.call54 (c_iIntOk f6 (by omega)) (fun v7 w7 p7 => ?_)
 obtain ⟨rfl, c7⟩ := p7
 have zw7 := c7.size
 refine sx_pure rfl rfl rfl (px_notP rfl) ?_
 refine sm rfl rfl rfl rfl ?_
 refine sx_tmpP (t := 8) rfl (fun h14 => ?_) (fun h14 => ?_)
 ·
  refine sx_guardF rfl rfl rfl rfl rfl rfl ?_
  refine sx_guardF rfl rfl rfl rfl rfl rfl ?_
  refine sx_guardF rfl rfl rfl rfl rfl rfl ?_
  refine sx_guardF rfl rfl rfl rfl rfl rfl ?_
  refine sx_pure rfl rfl rfl (px_pick rfl rfl) ?_
  refine sm rfl rfl rfl rfl ?_
  refine sx_guardF rfl rfl rfl rfl rfl rfl ?_
  refine sx_guardF rfl rfl rfl rfl rfl rfl ?_
  refine sx_guardF rfl rfl rfl rfl rfl rfl ?_
  refine sx_guardF rfl rfl rfl rfl rfl rfl ?_
  refine sx_pure rfl rfl rfl (px_pick rfl rfl) ?_
  refine sm rfl rfl rfl rfl ?_
  refine sx_guardF rfl rfl rfl rfl rfl rfl ?_
  refine sx_guardF rfl rfl rfl rfl rfl rfl ?_
  refine sx_guardF rfl rfl rfl rfl rfl rfl ?_
  refine sx_guardF rfl rfl rfl rfl rfl rfl ?_
  refine sx_pure rfl rfl rfl (px_pick rfl rfl) ?_
  refine sm rfl rfl rfl rfl ?_
  refine sx_guardF rfl rfl rfl rfl rfl rfl ?_
  refine sx_guardF rfl rfl rfl rfl rfl rfl ?_
  refine sx_guardF rfl rfl rfl rfl rfl rfl ?_
  refine sx_guardF rfl rfl rfl rfl rfl rfl ?_
  refine sx_guardF rfl rfl rfl rfl rfl rfl ?_
  refine sx_pure rfl rfl rfl (px_pick rfl rfl) ?_
  refine wl_nil (q_n (k5 _ _ ?_))
  refine sx_sub (Sub.cons (t := 1) rfl (.cons (t := 2) rfl (.cons (t := 32) rfl (.nil)))) ?_
  refine sx_condT rfl ?_
  refine sx_seq fun K8 k8 => sx_region ?_
  refine sa rfl rfl rfl rfl ?_
  refine wl_nil (q_n (k8 _ _ ?_))
  refine sx_retc ?_
  refine q_r (sx_ret1 Tryz.results45 rfl ?_)
  exact ⟨(bFalse (by grind [ROk])), (cb2.t c7)⟩
 ·
  refine sx_guardT rfl rfl rfl ?_
  refine sx_pure rfl rfl rfl (px_field rfl xfld32x1) ?_
  refine sx_guardT rfl rfl rfl ?_
  have f9 := fb2.ext c7
  refine sx_pure rfl rfl rfl (px_load rfl (f9.load1 rfl Tryz.isAgg22)) ?_
  refine sx_guardT rfl rfl rfl ?_
  have f10 := hd10.ext cb2
  have f11 := f10.ext c7
  refine sx_call rfl rfl Tryz.call69 (c_iNatOk f11 (by omega)) (fun v12 w12 p12 => ?_)
  obtain ⟨rfl, c12⟩ := p12
  have zw12 := c12.size
  refine sx_guardT rfl rfl rfl ?_
  refine sx_pure rfl rfl rfl (px_notP rfl) ?_
  refine sx_pure rfl rfl rfl (px_pick rfl rfl) ?_
  refine sm rfl rfl rfl rfl ?_
  refine sx_tmpP (t := 14) rfl (fun h14x1 => ?_) (fun h14x1 => ?_)
  ·
   refine sx_guardF rfl rfl rfl rfl rfl rfl ?_
   refine sx_guardF rfl rfl rfl rfl rfl rfl ?_
   refine sx_guardF rfl rfl rfl rfl rfl rfl ?_
   refine sx_guardF rfl rfl rfl rfl rfl rfl ?_
   refine sx_pure rfl rfl rfl (px_pick rfl rfl) ?_
   refine sm rfl rfl rfl rfl ?_
   refine sx_guardF rfl rfl rfl rfl rfl rfl ?_
   refine sx_guardF rfl rfl rfl rfl rfl rfl ?_
   refine sx_guardF rfl rfl rfl rfl rfl rfl ?_
   refine sx_guardF rfl rfl rfl rfl rfl rfl ?_
   refine sx_pure rfl rfl rfl (px_pick rfl rfl) ?_
   refine sm rfl rfl rfl rfl ?_
   refine sx_guardF rfl rfl rfl rfl rfl rfl ?_
   refine sx_guardF rfl rfl rfl rfl rfl rfl ?_
   refine sx_guardF rfl rfl rfl rfl rfl rfl ?_
   refine sx_guardF rfl rfl rfl rfl rfl rfl ?_
   refine sx_guardF rfl rfl rfl rfl rfl rfl ?_
   refine sx_pure rfl rfl rfl (px_pick rfl rfl) ?_
   refine wl_nil (q_n (k5 _ _ ?_))
   refine sx_sub (Sub.cons (t := 1) rfl (.cons (t := 2) rfl (.cons (t := 32) rfl (.nil)))) ?_
   refine sx_condT rfl ?_
   refine sx_seq fun K13 k13 => sx_region ?_
   refine sa rfl rfl rfl rfl ?_
   refine wl_nil (q_n (k13 _ _ ?_))
   refine sx_retc ?_
   refine q_r (sx_ret1 Tryz.results45 rfl ?_)
   exact ⟨(bFalse (by grind [ROk])), ((cb2.t c7).t c12)⟩
  ·
   refine sx_guardT rfl rfl rfl ?_
   refine sx_pure rfl rfl rfl (px_field rfl xfld32x1) ?_
   refine sx_guardT rfl rfl rfl ?_
   have f14 := f9.ext c12
   refine sx_pure rfl rfl rfl (px_load rfl (f14.load1 rfl Tryz.isAgg22)) ?_
   refine sx_guardT rfl rfl rfl ?_
   have f15 := f11.ext c12
   refine sx_pure rfl rfl rfl (px_len rfl Tryz.underlying22 f15) ?_
   refine sx_guardT rfl rfl rfl ?_
   refine sx_pure rfl rfl rfl (px_eq rfl rfl) ?_
   refine sx_pure rfl rfl rfl (px_pick rfl rfl) ?_
   refine sm rfl rfl rfl rfl ?_
   refine sx_tmpP (t := 20) rfl (fun h14x2 => ?_) (fun h14x2 => ?_)
   ·
    refine sx_guardF rfl rfl rfl rfl rfl rfl ?_
    refine sx_guardF rfl rfl rfl rfl rfl rfl ?_
    refine sx_guardF rfl rfl rfl rfl rfl rfl ?_
    refine sx_guardF rfl rfl rfl rfl rfl rfl ?_
    refine sx_pure rfl rfl rfl (px_pick rfl rfl) ?_
    refine sm rfl rfl rfl rfl ?_
    refine sx_guardF rfl rfl rfl rfl rfl rfl ?_
    refine sx_guardF rfl rfl rfl rfl rfl rfl ?_
    refine sx_guardF rfl rfl rfl rfl rfl rfl ?_
    refine sx_guardF rfl rfl rfl rfl rfl rfl ?_
    refine sx_guardF rfl rfl rfl rfl rfl rfl ?_
    refine sx_pure rfl rfl rfl (px_pick rfl rfl) ?_
    refine wl_nil (q_n (k5 _ _ ?_))
    refine sx_sub (Sub.cons (t := 1) rfl (.cons (t := 2) rfl (.cons (t := 32) rfl (.nil)))) ?_
    refine sx_condT rfl ?_
    refine sx_seq fun K16 k16 => sx_region ?_
    refine sa rfl rfl rfl rfl ?_
    refine wl_nil (q_n (k16 _ _ ?_))
    refine sx_retc ?_
    refine q_r (sx_ret1 Tryz.results45 rfl ?_)
    exact ⟨(bFalse (by grind [ROk])), ((cb2.t c7).t c12)⟩
   ·
    refine sx_guardT rfl rfl rfl ?_
    refine sx_pure rfl rfl rfl (px_field rfl xfld32x1) ?_
    refine sx_guardT rfl rfl rfl ?_
    refine sx_pure rfl rfl rfl (px_load rfl (f14.load1 rfl Tryz.isAgg22)) ?_
    refine sx_guardT rfl rfl rfl ?_
    refine sx_pure rfl rfl rfl (px_len rfl Tryz.underlying22 f15) ?_
    refine sx_guardT rfl rfl rfl ?_
    refine sx_pure rfl rfl rfl (px_gt rfl rfl) ?_
    refine sx_pure rfl rfl rfl (px_pick rfl rfl) ?_
    refine sm rfl rfl rfl rfl ?_
    refine sx_tmpP (t := 26) rfl (fun h14x3 => ?_) (fun h14x3 => ?_)
    ·
     refine sx_guardF rfl rfl rfl rfl rfl rfl ?_
     refine sx_guardF rfl rfl rfl rfl rfl rfl ?_
     refine sx_guardF rfl rfl rfl rfl rfl rfl ?_
     refine sx_guardF rfl rfl rfl rfl rfl rfl ?_
     refine sx_guardF rfl rfl rfl rfl rfl rfl ?_
     refine sx_pure rfl rfl rfl (px_pick rfl rfl) ?_
     refine wl_nil (q_n (k5 _ _ ?_))
     refine sx_sub (Sub.cons (t := 1) rfl (.cons (t := 2) rfl (.cons (t := 32) rfl (.nil)))) ?_
     refine sx_condT rfl ?_
     refine sx_seq fun K17 k17 => sx_region ?_
     refine sa rfl rfl rfl rfl ?_
     refine wl_nil (q_n (k17 _ _ ?_))
     refine sx_retc ?_
     refine q_r (sx_ret1 Tryz.results45 rfl ?_)
     exact ⟨(bFalse (by grind [ROk])), ((cb2.t c7).t c12)⟩
    ·
     refine sx_guardT rfl rfl rfl ?_
     refine sx_pure rfl rfl rfl (px_field rfl xfld32x0) ?_
     refine sx_guardT rfl rfl rfl ?_
     refine sx_pure rfl rfl rfl (px_field rfl xfld28x1) ?_
     refine sx_guardT rfl rfl rfl ?_
     refine sx_pure rfl rfl rfl (px_load rfl (f14.load1 rfl Tryz.isAgg22)) ?_
     refine sx_guardT rfl rfl rfl ?_
     have f18 := f6.ext c7
     have f19 := f18.ext c12
     refine sx_pure rfl rfl rfl (px_len rfl Tryz.underlying22 f19) ?_
     refine sx_guardT rfl rfl rfl ?_
     refine sx_pure rfl rfl rfl (px_gt rfl rfl) ?_
     refine sx_pure rfl rfl rfl (px_pick rfl rfl) ?_
     refine wl_nil (q_n (k5 _ _ ?_))
     refine sx_sub (Sub.cons (t := 1) rfl (.cons (t := 2) rfl (.cons (t := 32) rfl (.nil)))) ?_
     refine sx_condP rfl (fun h14x4 => ?_) (fun h14x4 => ?_)
     ·
      refine sx_seq fun K20 k20 => sx_region ?_
      refine sa rfl rfl rfl rfl ?_
      refine wl_nil (q_n (k20 _ _ ?_))
      refine sx_retc ?_
      refine q_r (sx_ret1 Tryz.results45 rfl ?_)
      exact ⟨(bFalse (by grind [ROk])), ((cb2.t c7).t c12)⟩
     ·
      have hR1 := Decidable.not_not.1 h14
      have hR2 := Decidable.not_not.1 h14x1
      obtain ⟨x1, rfl, rfl, hx1⟩ := hR1.int
      obtain ⟨e1, rfl, he1⟩ := hR2.dg
      have he0 : 0 < e1 := len_pos.1 (by omega)
      have hk : ROk (ng x1) (dg x1.natAbs) (dg e1) ↔ dg (Nat.gcd x1.natAbs e1) = [1] := by rw [ROk_iff, dg_is_one]; exact ⟨fun h => h.2.2.2, fun h => ⟨he0, by omega, by omega, h⟩⟩
      refine sx_skip ?_
      refine q_n (k4 _ _ ?_)
      refine sx_seq fun K21 k21 => sx_region ?_
      refine sx_pure rfl rfl rfl (px_field rfl xfld32x0) ?_
      refine sx_pure rfl rfl rfl (px_field rfl xfld28x1) ?_
      refine sx_pure rfl rfl rfl (px_load rfl (f14.load1 rfl Tryz.isAgg22)) ?_
      refine sx_pure rfl rfl rfl (px_field rfl xfld32x1) ?_
      refine sx_pure rfl rfl rfl (px_load rfl (f14.load1 rfl Tryz.isAgg22)) ?_
      refine sx_call rfl rfl Tryz.call70 (c_natGcd f19 f15 (by omega) (by omega)) (fun v22 w22 p22 => ?_)
      obtain ⟨s22, rfl, os_22, c22⟩ := p22
      have zw22 := c22.size
      refine sa rfl rfl rfl rfl ?_
      refine wl_nil (q_n (k21 _ _ ?_))
      refine sx_seq fun K23 k23 => sx_region ?_
      refine sm rfl rfl rfl rfl ?_
      refine sx_pure rfl rfl rfl (px_len rfl Tryz.underlying22 os_22.sv) ?_
      refine sx_pure rfl rfl rfl (px_eq rfl rfl) ?_
      refine sm rfl rfl rfl rfl ?_
      refine sx_tmpP (t := 42) rfl (fun h18 => ?_) (fun h18 => ?_)
      ·
       refine sx_guardT rfl rfl rfl ?_
       refine sm rfl rfl rfl rfl ?_
       refine sx_guardT rfl rfl rfl ?_
       refine sx_pure rfl rfl rfl (px_index1 (j := 0) rfl rfl (by omega) Tryz.underlying22 Tryz.sizeOf3 os_22.sv (by omega)) ?_
       refine sx_guardT rfl rfl rfl ?_
       refine sx_pure rfl rfl rfl (px_load rfl (os_22.sv.load1 (at_int (by omega)) Tryz.isAgg3)) ?_
       refine sx_guardT rfl rfl rfl ?_
       refine sx_pure rfl rfl rfl (px_eq rfl rfl) ?_
       refine sx_pure rfl rfl rfl (px_pick rfl rfl) ?_
       refine sa rfl rfl rfl rfl ?_
       refine wl_nil (q_n (k23 _ _ ?_))
       refine sx_sub (Sub.cons (t := 2) rfl (.nil)) ?_
       refine sx_retc ?_
       refine sx_ret1 Tryz.results45 rfl ?_
       rw [one_iff] at hk
       exact ⟨(by first | exact bFalse (fun h => by have := hk.1 h; omega) | exact bIff ⟨fun h => hk.2 ⟨by omega, h⟩, fun h => (hk.1 h).2⟩), (((cb2.t c7).t c12).t c22)⟩
      ·
       refine sx_guardF rfl rfl rfl rfl rfl rfl ?_
       refine sx_guardF rfl rfl rfl rfl rfl rfl ?_
       refine sx_guardF rfl rfl rfl rfl rfl rfl ?_
       refine sx_guardF rfl rfl rfl rfl rfl rfl ?_
       refine sx_pure rfl rfl rfl (px_pick rfl rfl) ?_
       refine sa rfl rfl rfl rfl ?_
       refine wl_nil (q_n (k23 _ _ ?_))
       refine sx_sub (Sub.cons (t := 2) rfl (.nil)) ?_
       refine sx_retc ?_
       refine sx_ret1 Tryz.results45 rfl ?_
       rw [one_iff] at hk
       exact ⟨(by first | exact bFalse (fun h => by have := hk.1 h; omega) | exact bIff ⟨fun h => hk.2 ⟨by omega, h⟩, fun h => (hk.1 h).2⟩), (((cb2.t c7).t c12).t c22)⟩

theorem c_isMode {w : World} {m : Int} :
  Ret Tryz.prog 46 [.int .i64 m] w fun v w' => v = .bool (decide (0 ≤ m ∧ m ≤ 6)) ∧ Chg 0 0 w w' := by
 refine sx_enter Tryz.func46 rfl Tryz.ntmps46 (Nat.le_of_ble_eq_true rfl) ?_
 refine sx_seq fun K1 k1 => sx_region ?_
 refine sa rfl rfl rfl rfl ?_
 refine wl_nil (q_n (k1 _ _ ?_))
 refine sx_seq fun K2 k2 => sx_region ?_
 refine sm rfl rfl rfl rfl ?_
 refine sx_pure rfl rfl rfl (px_ge rfl rfl) ?_
 refine sm rfl rfl rfl rfl ?_
 refine sx_tmpP (t := 5) rfl (fun h34 => ?_) (fun h34 => ?_)
 ·
  refine sx_guardT rfl rfl rfl ?_
  refine sm rfl rfl rfl rfl ?_
  refine sx_guardT rfl rfl rfl ?_
  refine sx_pure rfl rfl rfl (px_le rfl rfl) ?_
  refine sx_pure rfl rfl rfl (px_pick rfl rfl) ?_
  refine sa rfl rfl rfl rfl ?_
  refine wl_nil (q_n (k2 _ _ ?_))
  refine sx_retc ?_
  refine sx_ret1 Tryz.results46 rfl ?_
  exact ⟨(by first | exact bTrue (by grind) | exact bFalse (by grind) | exact bIff (by grind)), (Chg.refl 0 0 _)⟩
 ·
  refine sx_guardF rfl rfl rfl rfl rfl rfl ?_
  refine sx_guardF rfl rfl rfl rfl rfl rfl ?_
  refine sx_pure rfl rfl rfl (px_pick rfl rfl) ?_
  refine sa rfl rfl rfl rfl ?_
  refine wl_nil (q_n (k2 _ _ ?_))
  refine sx_retc ?_
  refine sx_ret1 Tryz.results46 rfl ?_
  exact ⟨(by first | exact bTrue (by grind) | exact bFalse (by grind) | exact bIff (by grind)), (Chg.refl 0 0 _)⟩

theorem c_rm1 {w : World} {n : Bool} {c : Int} {o : Bool} :
  Ret Tryz.prog 98 [.bool n, .int .i64 c, .bool o] w fun v w' => v = .bool (awayB 0 n c o) ∧ Chg 0 0 w w' := by
 refine sx_enter Tryz.func98 rfl Tryz.ntmps98 (Nat.le_of_ble_eq_true rfl) ?_
 refine sx_seq fun K1 k1 => sx_region ?_
 refine sa rfl rfl rfl rfl ?_
 refine wl_nil (q_n (k1 _ _ ?_))
 refine sx_seq fun K2 k2 => sx_region ?_
 refine sa rfl rfl rfl rfl ?_
 refine wl_nil (q_n (k2 _ _ ?_))
 refine sx_retc ?_
 refine sx_ret1 Tryz.results98 rfl ?_
 exact ⟨(by first | rfl | (simp_all [awayB]; done) | grind [awayB]), (Chg.refl 0 0 _)⟩

theorem c_rm2 {w : World} {n : Bool} {c : Int} {o : Bool} :
  Ret Tryz.prog 99 [.bool n, .int .i64 c, .bool o] w fun v w' => v = .bool (awayB 1 n c o) ∧ Chg 0 0 w w' := by
 refine sx_enter Tryz.func99 rfl Tryz.ntmps99 (Nat.le_of_ble_eq_true rfl) ?_
 refine sx_seq fun K1 k1 => sx_region ?_
 refine sa rfl rfl rfl rfl ?_
 refine wl_nil (q_n (k1 _ _ ?_))
 refine sx_seq fun K2 k2 => sx_region ?_
 refine sa rfl rfl rfl rfl ?_
 refine wl_nil (q_n (k2 _ _ ?_))
 refine sx_retc ?_
 refine sx_ret1 Tryz.results99 rfl ?_
 exact ⟨(by first | rfl | (simp_all [awayB]; done) | grind [awayB]), (Chg.refl 0 0 _)⟩

theorem c_rm3 {w : World} {n : Bool} {c : Int} {o : Bool} :
  Ret Tryz.prog 100 [.bool n, .int .i64 c, .bool o] w fun v w' => v = .bool (awayB 2 n c o) ∧ Chg 0 0 w w' := by
 refine sx_enter Tryz.func100 rfl Tryz.ntmps100 (Nat.le_of_ble_eq_true rfl) ?_
 refine sx_seq fun K1 k1 => sx_region ?_
 refine sa rfl rfl rfl rfl ?_
 refine wl_nil (q_n (k1 _ _ ?_))
 refine sx_seq fun K2 k2 => sx_region ?_
 refine sm rfl rfl rfl rfl ?_
 refine sa rfl rfl rfl rfl ?_
 refine wl_nil (q_n (k2 _ _ ?_))
 refine sx_retc ?_
 refine sx_ret1 Tryz.results100 rfl ?_
 exact ⟨(by first | rfl | (simp_all [awayB]; done) | grind [awayB]), (Chg.refl 0 0 _)⟩

theorem c_rm4 {w : World} {n : Bool} {c : Int} {o : Bool} :
  Ret Tryz.prog 101 [.bool n, .int .i64 c, .bool o] w fun v w' => v = .bool (awayB 3 n c o) ∧ Chg 0 0 w w' := by
 refine sx_enter Tryz.func101 rfl Tryz.ntmps101 (Nat.le_of_ble_eq_true rfl) ?_
 refine sx_seq fun K1 k1 => sx_region ?_
 refine sa rfl rfl rfl rfl ?_
 refine wl_nil (q_n (k1 _ _ ?_))
 refine sx_seq fun K2 k2 => sx_region ?_
 refine sm rfl rfl rfl rfl ?_
 refine sx_pure rfl rfl rfl (px_not rfl) ?_
 refine sa rfl rfl rfl rfl ?_
 refine wl_nil (q_n (k2 _ _ ?_))
 refine sx_retc ?_
 refine sx_ret1 Tryz.results101 rfl ?_
 exact ⟨(by first | rfl | (simp_all [awayB]; done) | grind [awayB]), (Chg.refl 0 0 _)⟩

theorem c_rm5 {w : World} {n : Bool} {c : Int} {o : Bool} :
  Ret Tryz.prog 102 [.bool n, .int .i64 c, .bool o] w fun v w' => v = .bool (awayB 4 n c o) ∧ Chg 0 0 w w' := by
 refine sx_enter Tryz.func102 rfl Tryz.ntmps102 (Nat.le_of_ble_eq_true rfl) ?_
 refine sx_seq fun K1 k1 => sx_region ?_
 refine sa rfl rfl rfl rfl ?_
 refine wl_nil (q_n (k1 _ _ ?_))
 refine sx_seq fun K2 k2 => sx_region ?_
 refine sm rfl rfl rfl rfl ?_
 refine sx_pure rfl rfl rfl (px_gt rfl rfl) ?_
 refine sa rfl rfl rfl rfl ?_
 refine wl_nil (q_n (k2 _ _ ?_))
 refine sx_retc ?_
 refine sx_ret1 Tryz.results102 rfl ?_
 exact ⟨(by first | rfl | (simp_all [awayB]; done) | grind [awayB]), (Chg.refl 0 0 _)⟩

theorem c_rm6 {w : World} {n : Bool} {c : Int} {o : Bool} :
  Ret Tryz.prog 103 [.bool n, .int .i64 c, .bool o] w fun v w' => v = .bool (awayB 5 n c o) ∧ Chg 0 0 w w' := by
 refine sx_enter Tryz.func103 rfl Tryz.ntmps103 (Nat.le_of_ble_eq_true rfl) ?_
 refine sx_seq fun K1 k1 => sx_region ?_
 refine sa rfl rfl rfl rfl ?_
 refine wl_nil (q_n (k1 _ _ ?_))
 refine sx_seq fun K2 k2 => sx_region ?_
 refine sm rfl rfl rfl rfl ?_
 refine sx_pure rfl rfl rfl (px_ge rfl rfl) ?_
 refine sa rfl rfl rfl rfl ?_
 refine wl_nil (q_n (k2 _ _ ?_))
 refine sx_retc ?_
 refine sx_ret1 Tryz.results103 rfl ?_
 exact ⟨(by first | rfl | (simp_all [awayB]; done) | grind [awayB]), (Chg.refl 0 0 _)⟩

theorem c_rm7 {w : World} {n : Bool} {c : Int} {o : Bool} :
  Ret Tryz.prog 104 [.bool n, .int .i64 c, .bool o] w fun v w' => v = .bool (awayB 6 n c o) ∧ Chg 0 0 w w' := by
 refine sx_enter Tryz.func104 rfl Tryz.ntmps104 (Nat.le_of_ble_eq_true rfl) ?_
 refine sx_seq fun K1 k1 => sx_region ?_
 refine sa rfl rfl rfl rfl ?_
 refine wl_nil (q_n (k1 _ _ ?_))
 refine sx_seq fun K2 k2 => sx_region ?_
 refine sm rfl rfl rfl rfl ?_
 refine sx_pure rfl rfl rfl (px_gt rfl rfl) ?_
 refine sm rfl rfl rfl rfl ?_
 refine sx_tmpP (t := 9) rfl (fun h29 => ?_) (fun h29 => ?_)
 ·
  refine sx_guardF rfl rfl rfl rfl rfl rfl ?_
  refine sx_guardF rfl rfl rfl rfl rfl rfl ?_
  refine sx_guardF rfl rfl rfl rfl rfl rfl ?_
  refine sx_guardFU rfl rfl rfl rfl rfl ?_
  refine sx_guardF rfl rfl rfl rfl rfl rfl ?_
  refine sx_pure rfl rfl rfl (px_pick rfl rfl) ?_
  refine sa rfl rfl rfl rfl ?_
  refine wl_nil (q_n (k2 _ _ ?_))
  refine sx_retc ?_
  refine sx_ret1 Tryz.results104 rfl ?_
  exact ⟨(by first | rfl | (simp_all [awayB]; done) | grind [awayB]), (Chg.refl 0 0 _)⟩
 ·
  refine sx_guardT rfl rfl rfl ?_
  refine sm rfl rfl rfl rfl ?_
  refine sx_guardT rfl rfl rfl ?_
  refine sx_pure rfl rfl rfl (px_eq rfl rfl) ?_
  refine sx_guardT rfl rfl rfl ?_
  refine sm rfl rfl rfl rfl ?_
  refine sx_tmpP (t := 12) rfl (fun h29x1 => ?_) (fun h29x1 => ?_)
  ·
   refine sx_guardT rfl rfl rfl ?_
   refine sm rfl rfl rfl rfl ?_
   refine sx_guardT rfl rfl rfl ?_
   refine sx_pure rfl rfl rfl (px_pick rfl rfl) ?_
   refine sx_pure rfl rfl rfl (px_pick rfl rfl) ?_
   refine sa rfl rfl rfl rfl ?_
   refine wl_nil (q_n (k2 _ _ ?_))
   refine sx_retc ?_
   refine sx_ret1 Tryz.results104 rfl ?_
   exact ⟨(by first | rfl | (simp_all [awayB]; done) | grind [awayB]), (Chg.refl 0 0 _)⟩
  ·
   refine sx_guardF rfl rfl rfl rfl rfl rfl ?_
   refine sx_guardT rfl rfl rfl ?_
   refine sx_pure rfl rfl rfl (px_pick rfl rfl) ?_
   refine sx_pure rfl rfl rfl (px_pick rfl rfl) ?_
   refine sa rfl rfl rfl rfl ?_
   refine wl_nil (q_n (k2 _ _ ?_))
   refine sx_retc ?_
   refine sx_ret1 Tryz.results104 rfl ?_
   exact ⟨(by first | rfl | (simp_all [awayB]; done) | grind [awayB]), (Chg.refl 0 0 _)⟩

theorem c_away {w : World} {n o : Bool} {c m : Int} (hm : 0 ≤ m ∧ m ≤ 6) :
  Ret Tryz.prog (rmF m) [.bool n, .int .i64 c, .bool o] w fun v w' => v = .bool (awayB m n c o) ∧ Chg 0 0 w w' := by
 rcases rm_cases hm with h | h | h | h | h | h | h
 · subst h; exact c_rm1
 · subst h; exact c_rm2
 · subst h; exact c_rm3
 · subst h; exact c_rm4
 · subst h; exact c_rm5
 · subst h; exact c_rm6
 · subst h; exact c_rm7

theorem c_roundModes {w : World} :
  Ret Tryz.prog 72 [] w fun v w' => v = .agg #[.string ⟨#[100, 111, 119, 110]⟩, .func (.func 98) #[] #[], .string ⟨#[117, 112]⟩, .func (.func 99) #[] #[], .string ⟨#[102, 108, 111, 111, 114]⟩, .func (.func 100) #[] #[], .string ⟨#[99, 101, 105, 108]⟩, .func (.func 101) #[] #[], .string ⟨#[104, 97, 108, 102, 100, 111, 119, 110]⟩, .func (.func 102) #[] #[], .string ⟨#[104, 97, 108, 102, 117, 112]⟩, .func (.func 103) #[] #[], .string ⟨#[104, 97, 108, 102, 101, 118, 101, 110]⟩, .func (.func 104) #[] #[]] ∧ Chg 0 0 w w' := by
 refine sx_enter Tryz.func72 rfl Tryz.ntmps72 (Nat.le_of_ble_eq_true rfl) ?_
 refine sx_seq fun K1 k1 => sx_region ?_
 refine sx_alloc [.string (⟨#[]⟩), .nilFunc, .string (⟨#[]⟩), .nilFunc, .string (⟨#[]⟩), .nilFunc, .string (⟨#[]⟩), .nilFunc, .string (⟨#[]⟩), .nilFunc, .string (⟨#[]⟩), .nilFunc, .string (⟨#[]⟩), .nilFunc] rfl Tryz.zeroValue86 rfl (fun b2 w3 eb2 sb2 fb2 cb2 => ?_)
 have zw3 := cb2.size
 refine wl_nil (q_n (k1 _ _ ?_))
 refine sx_seq fun K4 k4 => sx_region ?_
 refine sx_pure rfl rfl rfl (px_build rfl (xbld85x0x1 rfl rfl _)) ?_
 refine sx_pure rfl rfl rfl (px_build rfl (xbld85x0x1 rfl rfl _)) ?_
 refine sx_pure rfl rfl rfl (px_build rfl (xbld85x0x1 rfl rfl _)) ?_
 refine sx_pure rfl rfl rfl (px_build rfl (xbld85x0x1 rfl rfl _)) ?_
 refine sx_pure rfl rfl rfl (px_build rfl (xbld85x0x1 rfl rfl _)) ?_
 refine sx_pure rfl rfl rfl (px_build rfl (xbld85x0x1 rfl rfl _)) ?_
 refine sx_pure rfl rfl rfl (px_build rfl (xbld85x0x1 rfl rfl _)) ?_
 refine sx_pure rfl rfl rfl (px_build rfl (xbld86x0x1x2x3x4x5x6 _)) ?_
 refine sx_store (vs := [.string (⟨#[100, 111, 119, 110]⟩), .func (.func 98) #[] #[], .string (⟨#[117, 112]⟩), .func (.func 99) #[] #[], .string (⟨#[102, 108, 111, 111, 114]⟩), .func (.func 100) #[] #[], .string (⟨#[99, 101, 105, 108]⟩), .func (.func 101) #[] #[], .string (⟨#[104, 97, 108, 102, 100, 111, 119, 110]⟩), .func (.func 102) #[] #[], .string (⟨#[104, 97, 108, 102, 117, 112]⟩), .func (.func 103) #[] #[], .string (⟨#[104, 97, 108, 102, 101, 118, 101, 110]⟩), .func (.func 104) #[] #[]]) rfl rfl fb2 rfl Tryz.sizeOf86 (Nat.le_of_ble_eq_true rfl) (one_cons rfl (one_cons rfl (one_cons rfl (one_cons rfl (one_cons rfl (one_cons rfl (one_cons rfl (one_cons rfl (one_cons rfl (one_cons rfl (one_cons rfl (one_cons rfl (one_cons rfl (one_cons rfl one_nil)))))))))))))) (fun w5 sw5 fw5 cw5 => ?_)
 have zw5 := cw5.size
 have gw5 : Blk w5 b2 [.string (⟨#[100, 111, 119, 110]⟩), .func (.func 98) #[] #[], .string (⟨#[117, 112]⟩), .func (.func 99) #[] #[], .string (⟨#[102, 108, 111, 111, 114]⟩), .func (.func 100) #[] #[], .string (⟨#[99, 101, 105, 108]⟩), .func (.func 101) #[] #[], .string (⟨#[104, 97, 108, 102, 100, 111, 119, 110]⟩), .func (.func 102) #[] #[], .string (⟨#[104, 97, 108, 102, 117, 112]⟩), .func (.func 103) #[] #[], .string (⟨#[104, 97, 108, 102, 101, 118, 101, 110]⟩), .func (.func 104) #[] #[]] 86 := fw5
 refine wl_nil (q_n (k4 _ _ ?_))
 refine sx_retc ?_
 refine sx_ret1 Tryz.results72 ⟨_, rfl, gw5.loadA (vs := [.string (⟨#[100, 111, 119, 110]⟩), .func (.func 98) #[] #[], .string (⟨#[117, 112]⟩), .func (.func 99) #[] #[], .string (⟨#[102, 108, 111, 111, 114]⟩), .func (.func 100) #[] #[], .string (⟨#[99, 101, 105, 108]⟩), .func (.func 101) #[] #[], .string (⟨#[104, 97, 108, 102, 100, 111, 119, 110]⟩), .func (.func 102) #[] #[], .string (⟨#[104, 97, 108, 102, 117, 112]⟩), .func (.func 103) #[] #[], .string (⟨#[104, 97, 108, 102, 101, 118, 101, 110]⟩), .func (.func 104) #[] #[]]) (look_lit rfl) Tryz.isAgg86 Tryz.sizeOf86⟩ ?_
 have q6 := Chg.step (l := 0) (h := 0) (Chg.zero (l := 0) (h := 0) cb2) cw5 (by omega)
 exact ⟨rfl, q6⟩

theorem c_natAdd {w : World} {va : Value} {lva uva : Nat} {m : Nat} {vb : Value} {lvb uvb : Nat} {n : Nat} (hva : Sl w lva uva va (dg m)) (hvb : Sl w lvb uvb vb (dg n)) (hbm : (dg m).length ≤ 1000) (hbn : (dg n).length ≤ 1000) :
  Ret Tryz.prog 74 [va, vb] w fun v w' => ∃ s, v = s ∧ OwnI w' w.heap.size w'.heap.size s intT (dg (m + n)) ∧ Chg 0 0 w w' := by
 have hva0 := hva.fit
 have hvb0 := hvb.fit
 refine sx_enter Tryz.func74 rfl Tryz.ntmps74 (Nat.le_of_ble_eq_true rfl) ?_
 refine sx_seq fun K1 k1 => sx_region ?_
 refine sa rfl rfl rfl rfl ?_
 refine wl_nil (q_n (k1 _ _ ?_))
 refine sx_seq fun K2 k2 => sx_region ?_
 refine sm rfl rfl rfl rfl ?_
 refine sx_pure rfl rfl rfl (px_len rfl Tryz.underlying22 hva0) ?_
 refine sm rfl rfl rfl rfl ?_
 refine sx_pure rfl rfl rfl (px_len rfl Tryz.underlying22 hvb0) ?_
 refine sx_pure rfl rfl rfl (px_max rfl rfl) ?_
 refine sx_pure rfl rfl rfl (px_add rfl rfl (by omega)) ?_
 refine sx_make0 (c := max (dg m).length (dg n).length + 1) rfl xelt22 rfl (look_int rfl (by omega)) (by omega) (by unfold maxLen; omega) (fun s3 ws3 fs3 cs3 ls3 => ?_)
 have zws3 := cs3.size
 refine sa rfl rfl rfl rfl ?_
 refine wl_nil (q_n (k2 _ _ ?_))
 refine sx_seq fun K4 k4 => sx_region ?_
 refine sa rfl rfl rfl rfl ?_
 refine wl_nil (q_n (k4 _ _ ?_))
 refine sx_seq fun K5 k5 => ?_
 refine sx_seq fun K6 k6 => sx_region ?_
 refine sa rfl rfl rfl rfl ?_
 refine wl_nil (q_n (k6 _ _ ?_))
 refine sx_block ?_
 refine sx_loop (fun mm aa w' => ∃ (k : Nat) (s : Value) (os : List Int) (c : Nat), Agr 56 [(0, va), (1, vb), (5, s), (6, .int .i64 ((c : Nat) : Int)), (7, .int .i64 ↑k)] aa ∧ Chg w.heap.size ws3.heap.size ws3 w' ∧ Own w' w.heap.size w'.heap.size s intT os.length 1 (os.map (Value.int .i64)) ∧ (mm = max (dg m).length (dg n).length + 1 - k) ∧ (os.length = k) ∧ (Lm os) ∧ (c ≤ 1) ∧ (k ≤ max (dg m).length (dg n).length) ∧ (vl os + Bs ^ k * c = vl ((dg m).take k) + vl ((dg n).take k))) (_) (fun a ha => ⟨0, s3, [], 0, ha.sub (Sub.cons (t := 0) rfl (.cons (t := 1) rfl (.cons (t := 5) rfl (.cons (t := 6) (look_int (t := 6) rfl (by first | omega | simp)) (.cons (t := 7) (look_int (t := 7) rfl (by first | omega | simp)) (.nil)))))), Chg.refl _ _ _, (fs3.mono (by omega) (by omega)), rfl, rfl, Lm.nil, by omega, by omega, by simp [vl]⟩) ?_
 rintro mm aa wl7 ⟨k, s, os, c, hAwl7, cwl7, hs_s, hm, hos, hlm, hc, hk, hv⟩
 refine (show cw Tryz.prog 56 _ _ _ wl7 from ?_) aa hAwl7
 clear hAwl7
 have zwl7 := cwl7.size
 have am := (Lm_dg m).getD k
 have bn := (Lm_dg n).getD k
 refine sx_seq fun K8 k8 => ?_
 refine sx_seq fun K9 k9 => sx_region ?_
 refine sm rfl rfl rfl rfl ?_
 refine sm rfl rfl rfl rfl ?_
 have f10 := hva0.ext cs3
 have f11 := f10.chg cwl7 (by omega)
 refine sx_pure rfl rfl rfl (px_len rfl Tryz.underlying22 f11) ?_
 refine sm rfl rfl rfl rfl ?_
 have f12 := hvb0.ext cs3
 have f13 := f12.chg cwl7 (by omega)
 refine sx_pure rfl rfl rfl (px_len rfl Tryz.underlying22 f13) ?_
 refine sx_pure rfl rfl rfl (px_max rfl rfl) ?_
 refine sx_pure rfl rfl rfl (px_lt rfl rfl) ?_
 refine wl_nil (q_n (k9 _ _ ?_))
 refine sx_condP rfl (fun h105 => ?_) (fun h105 => ?_)
 ·
  refine sx_skip ?_
  refine q_n (k8 _ _ ?_)
  refine sx_seq fun K14 k14 => ?_
  refine sx_block ?_
  refine sx_seq fun K15 k15 => ?_
  refine sx_seq fun K16 k16 => sx_region ?_
  refine sm rfl rfl rfl rfl ?_
  refine sm rfl rfl rfl rfl ?_
  refine sx_pure rfl rfl rfl (px_len rfl Tryz.underlying22 f11) ?_
  refine sx_pure rfl rfl rfl (px_lt rfl rfl) ?_
  refine wl_nil (q_n (k16 _ _ ?_))
  refine sx_sub (Sub.cons (t := 0) rfl (.cons (t := 1) rfl (.cons (t := 5) rfl (.cons (t := 6) rfl (.cons (t := 7) rfl (.cons (t := 27) rfl (.nil))))))) ?_
  refine sx_condP rfl (fun h106 => ?_) (fun h106 => ?_)
  ·
   refine sx_region ?_
   refine sm rfl rfl rfl rfl ?_
   refine sm rfl rfl rfl rfl ?_
   refine sm rfl rfl rfl rfl ?_
   refine sx_pure rfl rfl rfl (px_index1 (j := k) rfl rfl (by omega) Tryz.underlying22 Tryz.sizeOf3 f11 (by omega)) ?_
   refine sx_pure rfl rfl rfl (px_load rfl (f11.load1 (at_int (by omega)) Tryz.isAgg3)) ?_
   refine sx_pure rfl rfl rfl (px_add rfl rfl (by omega)) ?_
   refine sa rfl rfl rfl rfl ?_
   refine wl_nil (q_n (k15 _ _ ?_))
   refine sx_seq fun K17 k17 => ?_
   refine sx_seq fun K18 k18 => sx_region ?_
   refine sm rfl rfl rfl rfl ?_
   refine sm rfl rfl rfl rfl ?_
   refine sx_pure rfl rfl rfl (px_len rfl Tryz.underlying22 f13) ?_
   refine sx_pure rfl rfl rfl (px_lt rfl rfl) ?_
   refine wl_nil (q_n (k18 _ _ ?_))
   refine sx_sub (Sub.cons (t := 0) rfl (.cons (t := 1) rfl (.cons (t := 5) rfl (.cons (t := 6) rfl (.cons (t := 7) rfl (.cons (t := 37) rfl (.nil))))))) ?_
   refine sx_condP rfl (fun h109 => ?_) (fun h109 => ?_)
   ·
    refine sx_region ?_
    refine sm rfl rfl rfl rfl ?_
    refine sm rfl rfl rfl rfl ?_
    refine sm rfl rfl rfl rfl ?_
    refine sx_pure rfl rfl rfl (px_index1 (j := k) rfl rfl (by omega) Tryz.underlying22 Tryz.sizeOf3 f13 (by omega)) ?_
    refine sx_pure rfl rfl rfl (px_load rfl (f13.load1 (at_int (by omega)) Tryz.isAgg3)) ?_
    refine sx_pure rfl rfl rfl (px_add rfl rfl (by omega)) ?_
    refine sa rfl rfl rfl rfl ?_
    refine wl_nil (q_n (k17 _ _ ?_))
    refine sx_seq fun K19 k19 => sx_region ?_
    refine sm rfl rfl rfl rfl ?_
    refine sm rfl rfl rfl rfl ?_
    refine sx_pure rfl rfl rfl (px_rem rfl rfl (by omega) (by omega)) ?_
    refine sx_lit1 rfl xelt22 rfl rfl (fun s20 ws20 ss20 fs20 cs20 => ?_)
    have ns20 := Own.norm (f := (Value.int .i64)) (zs := [((((c : Nat) : Int) + ((dg m).getD k 0)) + ((dg n).getD k 0)) % 1000000000]) fs20
    have zws20 := cs20.size
    have f22 := hs_s.ext cs20
    refine sx_append rfl xelt22 rfl rfl f22 ns20.sv one_int (by omega) (by simp only [List.length_cons, List.length_nil]; omega) (by unfold maxLen; simp only [List.length_cons, List.length_nil]; omega) (fun a21 w21 fw21 cw21 => ?_)
    have nw21 := Own.app (f := (Value.int .i64)) (a := os) (b := [((((c : Nat) : Int) + ((dg m).getD k 0)) + ((dg n).getD k 0)) % 1000000000]) fw21
    have zw21 := cw21.size
    refine sa rfl rfl rfl rfl ?_
    refine wl_nil (q_n (k19 _ _ ?_))
    refine sx_sub (Sub.cons (t := 0) rfl (.cons (t := 1) rfl (.cons (t := 5) rfl (.cons (t := 6) rfl (.cons (t := 7) rfl (.nil)))))) ?_
    refine sx_region ?_
    refine sm rfl rfl rfl rfl ?_
    refine sx_pure rfl rfl rfl (px_quo rfl rfl (by omega) (by omega) (by omega)) ?_
    refine sa rfl rfl rfl rfl ?_
    refine wl_nil ?_
    refine q_bn (q_n (k14 _ _ ?_))
    refine sx_region ?_
    refine sm rfl rfl rfl rfl ?_
    refine sx_pure rfl rfl rfl (px_add rfl rfl (by omega)) ?_
    refine sa rfl rfl rfl rfl ?_
    refine wl_nil ?_
    have q23 := Chg.step (l := w.heap.size) (h := ws3.heap.size) cwl7 cs20 (by omega)
    have q24 := Chg.step (l := w.heap.size) (h := ws3.heap.size) q23 cw21 (by omega)
    have hs : (((((c : Nat) : Int) + ((dg m).getD k 0)) + ((dg n).getD k 0)) : Int) = ((c : Nat) : Int) + (((dg m).getD k 0).toNat : Nat) + (((dg n).getD k 0).toNat : Nat) := by omega
    have hv2 : vl (os ++ [(((((c : Nat) : Int) + ((dg m).getD k 0)) + ((dg n).getD k 0))) % 1000000000]) + Bs ^ (k + 1) * ((((((c : Nat) : Int) + ((dg m).getD k 0)) + ((dg n).getD k 0))) / 1000000000 : Int).toNat = vl ((dg m).take (k + 1)) + vl ((dg n).take (k + 1)) := by
     rw [vl_concat, hos, vl_take_succ', vl_take_succ', Nat.pow_succ]
     exact add_step hs hv
    have hX := mod_bd (s := ((((c : Nat) : Int) + ((dg m).getD k 0)) + ((dg n).getD k 0))) (by omega)
    exact fun a ha => ⟨_, by omega, (k + 1), a21, (os ++ ([((((c : Nat) : Int) + ((dg m).getD k 0)) + ((dg n).getD k 0)) % 1000000000])), ((((((c : Nat) : Int) + ((dg m).getD k 0)) + ((dg n).getD k 0))) / 1000000000 : Int).toNat, ha.sub (Sub.cons (t := 0) rfl (.cons (t := 1) rfl (.cons (t := 5) rfl (.cons (t := 6) (look_int (t := 6) rfl (by first | omega | simp)) (.cons (t := 7) (look_int (t := 7) rfl (by first | omega | simp)) (.nil)))))), q24, (nw21.mono (by omega) (by omega)), rfl, by simp [hos], hlm.append (Lm.single hX.1 hX.2), by omega, by omega, hv2⟩
   ·
    have gn := getD_ge (zs := dg n) (k := k) (by omega)
    refine sx_skip ?_
    refine q_n (k17 _ _ ?_)
    refine sx_seq fun K25 k25 => sx_region ?_
    refine sm rfl rfl rfl rfl ?_
    refine sm rfl rfl rfl rfl ?_
    refine sx_pure rfl rfl rfl (px_rem rfl rfl (by omega) (by omega)) ?_
    refine sx_lit1 rfl xelt22 rfl rfl (fun s26 ws26 ss26 fs26 cs26 => ?_)
    have ns26 := Own.norm (f := (Value.int .i64)) (zs := [(((c : Nat) : Int) + ((dg m).getD k 0)) % 1000000000]) fs26
    have zws26 := cs26.size
    have f28 := hs_s.ext cs26
    refine sx_append rfl xelt22 rfl rfl f28 ns26.sv one_int (by omega) (by simp only [List.length_cons, List.length_nil]; omega) (by unfold maxLen; simp only [List.length_cons, List.length_nil]; omega) (fun a27 w27 fw27 cw27 => ?_)
    have nw27 := Own.app (f := (Value.int .i64)) (a := os) (b := [(((c : Nat) : Int) + ((dg m).getD k 0)) % 1000000000]) fw27
    have zw27 := cw27.size
    refine sa rfl rfl rfl rfl ?_
    refine wl_nil (q_n (k25 _ _ ?_))
    refine sx_region ?_
    refine sm rfl rfl rfl rfl ?_
    refine sx_pure rfl rfl rfl (px_quo rfl rfl (by omega) (by omega) (by omega)) ?_
    refine sa rfl rfl rfl rfl ?_
    refine wl_nil ?_
    refine q_bn (q_n (k14 _ _ ?_))
    refine sx_region ?_
    refine sm rfl rfl rfl rfl ?_
    refine sx_pure rfl rfl rfl (px_add rfl rfl (by omega)) ?_
    refine sa rfl rfl rfl rfl ?_
    refine wl_nil ?_
    have q29 := Chg.step (l := w.heap.size) (h := ws3.heap.size) cwl7 cs26 (by omega)
    have q30 := Chg.step (l := w.heap.size) (h := ws3.heap.size) q29 cw27 (by omega)
    have hs : ((((c : Nat) : Int) + ((dg m).getD k 0)) : Int) = ((c : Nat) : Int) + (((dg m).getD k 0).toNat : Nat) + (((dg n).getD k 0).toNat : Nat) := by omega
    have hv2 : vl (os ++ [((((c : Nat) : Int) + ((dg m).getD k 0))) % 1000000000]) + Bs ^ (k + 1) * (((((c : Nat) : Int) + ((dg m).getD k 0))) / 1000000000 : Int).toNat = vl ((dg m).take (k + 1)) + vl ((dg n).take (k + 1)) := by
     rw [vl_concat, hos, vl_take_succ', vl_take_succ', Nat.pow_succ]
     exact add_step hs hv
    have hX := mod_bd (s := (((c : Nat) : Int) + ((dg m).getD k 0))) (by omega)
    exact fun a ha => ⟨_, by omega, (k + 1), a27, (os ++ ([(((c : Nat) : Int) + ((dg m).getD k 0)) % 1000000000])), (((((c : Nat) : Int) + ((dg m).getD k 0))) / 1000000000 : Int).toNat, ha.sub (Sub.cons (t := 0) rfl (.cons (t := 1) rfl (.cons (t := 5) rfl (.cons (t := 6) (look_int (t := 6) rfl (by first | omega | simp)) (.cons (t := 7) (look_int (t := 7) rfl (by first | omega | simp)) (.nil)))))), q30, (nw27.mono (by omega) (by omega)), rfl, by simp [hos], hlm.append (Lm.single hX.1 hX.2), by omega, by omega, hv2⟩
  ·
   have gm := getD_ge (zs := dg m) (k := k) (by omega)
   refine sx_skip ?_
   refine q_n (k15 _ _ ?_)
   refine sx_seq fun K31 k31 => ?_
   refine sx_seq fun K32 k32 => sx_region ?_
   refine sm rfl rfl rfl rfl ?_
   refine sm rfl rfl rfl rfl ?_
   refine sx_pure rfl rfl rfl (px_len rfl Tryz.underlying22 f13) ?_
   refine sx_pure rfl rfl rfl (px_lt rfl rfl) ?_
   refine wl_nil (q_n (k32 _ _ ?_))
   refine sx_condP rfl (fun h109 => ?_) (fun h109 => ?_)
   ·
    refine sx_region ?_
    refine sm rfl rfl rfl rfl ?_
    refine sm rfl rfl rfl rfl ?_
    refine sm rfl rfl rfl rfl ?_
    refine sx_pure rfl rfl rfl (px_index1 (j := k) rfl rfl (by omega) Tryz.underlying22 Tryz.sizeOf3 f13 (by omega)) ?_
    refine sx_pure rfl rfl rfl (px_load rfl (f13.load1 (at_int (by omega)) Tryz.isAgg3)) ?_
    refine sx_pure rfl rfl rfl (px_add rfl rfl (by omega)) ?_
    refine sa rfl rfl rfl rfl ?_
    refine wl_nil (q_n (k31 _ _ ?_))
    refine sx_sub (Sub.cons (t := 0) rfl (.cons (t := 1) rfl (.cons (t := 5) rfl (.cons (t := 6) rfl (.cons (t := 7) rfl (.nil)))))) ?_
    refine sx_seq fun K33 k33 => sx_region ?_
    refine sm rfl rfl rfl rfl ?_
    refine sm rfl rfl rfl rfl ?_
    refine sx_pure rfl rfl rfl (px_rem rfl rfl (by omega) (by omega)) ?_
    refine sx_lit1 rfl xelt22 rfl rfl (fun s34 ws34 ss34 fs34 cs34 => ?_)
    have ns34 := Own.norm (f := (Value.int .i64)) (zs := [(((c : Nat) : Int) + ((dg n).getD k 0)) % 1000000000]) fs34
    have zws34 := cs34.size
    have f36 := hs_s.ext cs34
    refine sx_append rfl xelt22 rfl rfl f36 ns34.sv one_int (by omega) (by simp only [List.length_cons, List.length_nil]; omega) (by unfold maxLen; simp only [List.length_cons, List.length_nil]; omega) (fun a35 w35 fw35 cw35 => ?_)
    have nw35 := Own.app (f := (Value.int .i64)) (a := os) (b := [(((c : Nat) : Int) + ((dg n).getD k 0)) % 1000000000]) fw35
    have zw35 := cw35.size
    refine sa rfl rfl rfl rfl ?_
    refine wl_nil (q_n (k33 _ _ ?_))
    refine sx_region ?_
    refine sm rfl rfl rfl rfl ?_
    refine sx_pure rfl rfl rfl (px_quo rfl rfl (by omega) (by omega) (by omega)) ?_
    refine sa rfl rfl rfl rfl ?_
    refine wl_nil ?_
    refine q_bn (q_n (k14 _ _ ?_))
    refine sx_region ?_
    refine sm rfl rfl rfl rfl ?_
    refine sx_pure rfl rfl rfl (px_add rfl rfl (by omega)) ?_
    refine sa rfl rfl rfl rfl ?_
    refine wl_nil ?_
    have q37 := Chg.step (l := w.heap.size) (h := ws3.heap.size) cwl7 cs34 (by omega)
    have q38 := Chg.step (l := w.heap.size) (h := ws3.heap.size) q37 cw35 (by omega)
    have hs : ((((c : Nat) : Int) + ((dg n).getD k 0)) : Int) = ((c : Nat) : Int) + (((dg m).getD k 0).toNat : Nat) + (((dg n).getD k 0).toNat : Nat) := by omega
    have hv2 : vl (os ++ [((((c : Nat) : Int) + ((dg n).getD k 0))) % 1000000000]) + Bs ^ (k + 1) * (((((c : Nat) : Int) + ((dg n).getD k 0))) / 1000000000 : Int).toNat = vl ((dg m).take (k + 1)) + vl ((dg n).take (k + 1)) := by
     rw [vl_concat, hos, vl_take_succ', vl_take_succ', Nat.pow_succ]
     exact add_step hs hv
    have hX := mod_bd (s := (((c : Nat) : Int) + ((dg n).getD k 0))) (by omega)
    exact fun a ha => ⟨_, by omega, (k + 1), a35, (os ++ ([(((c : Nat) : Int) + ((dg n).getD k 0)) % 1000000000])), (((((c : Nat) : Int) + ((dg n).getD k 0))) / 1000000000 : Int).toNat, ha.sub (Sub.cons (t := 0) rfl (.cons (t := 1) rfl (.cons (t := 5) rfl (.cons (t := 6) (look_int (t := 6) rfl (by first | omega | simp)) (.cons (t := 7) (look_int (t := 7) rfl (by first | omega | simp)) (.nil)))))), q38, (nw35.mono (by omega) (by omega)), rfl, by simp [hos], hlm.append (Lm.single hX.1 hX.2), by omega, by omega, hv2⟩
   ·
    have gn := getD_ge (zs := dg n) (k := k) (by omega)
    refine sx_skip ?_
    refine q_n (k31 _ _ ?_)
    refine sx_seq fun K39 k39 => sx_region ?_
    refine sm rfl rfl rfl rfl ?_
    refine sm rfl rfl rfl rfl ?_
    refine sx_pure rfl rfl rfl (px_rem rfl rfl (by omega) (by omega)) ?_
    refine sx_lit1 rfl xelt22 rfl rfl (fun s40 ws40 ss40 fs40 cs40 => ?_)
    have ns40 := Own.norm (f := (Value.int .i64)) (zs := [((c : Nat) : Int) % 1000000000]) fs40
    have zws40 := cs40.size
    have f42 := hs_s.ext cs40
    refine sx_append rfl xelt22 rfl rfl f42 ns40.sv one_int (by omega) (by simp only [List.length_cons, List.length_nil]; omega) (by unfold maxLen; simp only [List.length_cons, List.length_nil]; omega) (fun a41 w41 fw41 cw41 => ?_)
    have nw41 := Own.app (f := (Value.int .i64)) (a := os) (b := [((c : Nat) : Int) % 1000000000]) fw41
    have zw41 := cw41.size
    refine sa rfl rfl rfl rfl ?_
    refine wl_nil (q_n (k39 _ _ ?_))
    refine sx_sub (Sub.cons (t := 0) rfl (.cons (t := 1) rfl (.cons (t := 5) rfl (.cons (t := 6) rfl (.cons (t := 7) rfl (.nil)))))) ?_
    refine sx_region ?_
    refine sm rfl rfl rfl rfl ?_
    refine sx_pure rfl rfl rfl (px_quo rfl rfl (by omega) (by omega) (by omega)) ?_
    refine sa rfl rfl rfl rfl ?_
    refine wl_nil ?_
    refine q_bn (q_n (k14 _ _ ?_))
    refine sx_region ?_
    refine sm rfl rfl rfl rfl ?_
    refine sx_pure rfl rfl rfl (px_add rfl rfl (by omega)) ?_
    refine sa rfl rfl rfl rfl ?_
    refine wl_nil ?_
    have q43 := Chg.step (l := w.heap.size) (h := ws3.heap.size) cwl7 cs40 (by omega)
    have q44 := Chg.step (l := w.heap.size) (h := ws3.heap.size) q43 cw41 (by omega)
    have hs : (((c : Nat) : Int) : Int) = ((c : Nat) : Int) + (((dg m).getD k 0).toNat : Nat) + (((dg n).getD k 0).toNat : Nat) := by omega
    have hv2 : vl (os ++ [(((c : Nat) : Int)) % 1000000000]) + Bs ^ (k + 1) * ((((c : Nat) : Int)) / 1000000000 : Int).toNat = vl ((dg m).take (k + 1)) + vl ((dg n).take (k + 1)) := by
     rw [vl_concat, hos, vl_take_succ', vl_take_succ', Nat.pow_succ]
     exact add_step hs hv
    have hX := mod_bd (s := ((c : Nat) : Int)) (by omega)
    exact fun a ha => ⟨_, by omega, (k + 1), a41, (os ++ ([((c : Nat) : Int) % 1000000000])), ((((c : Nat) : Int)) / 1000000000 : Int).toNat, ha.sub (Sub.cons (t := 0) rfl (.cons (t := 1) rfl (.cons (t := 5) rfl (.cons (t := 6) (look_int (t := 6) rfl (by first | omega | simp)) (.cons (t := 7) (look_int (t := 7) rfl (by first | omega | simp)) (.nil)))))), q44, (nw41.mono (by omega) (by omega)), rfl, by simp [hos], hlm.append (Lm.single hX.1 hX.2), by omega, by omega, hv2⟩
 ·
  refine sx_exit ?_
  refine q_e (q_e (q_bx (q_n (k5 _ _ ?_))))
  refine sx_seq fun K45 k45 => ?_
  have ek : k = max (dg m).length (dg n).length := by omega
  have hz : Lm (os ++ [((c : Nat) : Int)]) := hlm.append (Lm.single (by omega) (by omega))
  have hvv : vl (os ++ [((c : Nat) : Int)]) = m + n := by rw [vl_concat, hos, Int.toNat_natCast, hv, vl_take_ge (by omega), vl_take_ge (by omega), vl_dg, vl_dg]
  refine sx_region ?_
  refine sm rfl rfl rfl rfl ?_
  refine sm rfl rfl rfl rfl ?_
  refine sx_lit1 rfl xelt22 rfl rfl (fun s46 ws46 ss46 fs46 cs46 => ?_)
  have ns46 := Own.norm (f := (Value.int .i64)) (zs := [((c : Nat) : Int)]) fs46
  have zws46 := cs46.size
  have f48 := hs_s.ext cs46
  refine sx_append rfl xelt22 rfl rfl f48 ns46.sv one_int (by omega) (by simp only [List.length_cons, List.length_nil]; omega) (by unfold maxLen; simp only [List.length_cons, List.length_nil]; omega) (fun a47 w47 fw47 cw47 => ?_)
  have nw47 := Own.app (f := (Value.int .i64)) (a := os) (b := [((c : Nat) : Int)]) fw47
  have zw47 := cw47.size
  refine sx_call rfl rfl Tryz.call97 (c_trim nw47 (by assumption) (by first | omega | (simp only [List.length_append, List.length_set, List.length_replicate, List.length_cons, List.length_nil] at *; omega))) (fun v49 w49 p49 => ?_)
  obtain ⟨s49, rfl, os_49, c49⟩ := p49
  have zw49 := c49.size
  refine sa rfl rfl rfl rfl ?_
  refine wl_nil (q_n (k45 _ _ ?_))
  refine sx_sub (Sub.cons (t := 4) rfl (.nil)) ?_
  refine sx_retc ?_
  refine sx_ret1 Tryz.results74 rfl ?_
  have hr := os_49
  rw [hvv] at hr
  have q50 := Chg.step (l := 0) (h := 0) (Chg.zero (l := 0) (h := 0) cs3) cwl7 (by omega)
  have q51 := Chg.step (l := 0) (h := 0) q50 cs46 (by omega)
  have q52 := Chg.step (l := 0) (h := 0) q51 cw47 (by omega)
  have q53 := Chg.step (l := 0) (h := 0) q52 c49 (by omega)
  exact ⟨_, rfl, hr.mono (by omega) (by omega), q53⟩

theorem c_natAdd1 {w : World} {va : Value} {lva uva : Nat} {m : Nat} {vb : Value} {lvb uvb : Nat} {ys : List Int} (hva : Sl w lva uva va (dg m)) (hvb : Sl w lvb uvb vb (ys)) (hbm : (dg m).length ≤ 1000) (hy : ys = [1]) :
  Ret Tryz.prog 74 [va, vb] w fun v w' => ∃ s, v = s ∧ OwnI w' w.heap.size w'.heap.size s intT (dg (m + 1)) ∧ Chg 0 0 w w' := by
 rw [hy, ← dg_1] at hvb; exact c_natAdd hva hvb hbm (by rw [dg_1]; simp)

theorem c_iNatEven {w : World} {va : Value} {lva uva : Nat} {m : Nat} (hva : Sl w lva uva va (dg m)) (hbm : (dg m).length ≤ 50) :
  Ret Tryz.prog 75 [va] w fun v w' => v = .bool (decide (¬ m % 2 = 1)) ∧ Chg 0 0 w w' := by
 have hva0 := hva.fit
 refine sx_enter Tryz.func75 rfl Tryz.ntmps75 (Nat.le_of_ble_eq_true rfl) ?_
 refine sx_seq fun K1 k1 => sx_region ?_
 refine sa rfl rfl rfl rfl ?_
 refine wl_nil (q_n (k1 _ _ ?_))
 refine sx_seq fun K2 k2 => sx_region ?_
 refine sm rfl rfl rfl rfl ?_
 refine sx_call rfl rfl Tryz.call69 (c_iNatOk hva0 (by omega)) (fun v3 w3 p3 => ?_)
 obtain ⟨rfl, c3⟩ := p3
 have zw3 := c3.size
 refine sm rfl rfl rfl rfl ?_
 have h151 : NOk (dg m) := NOk_dg (by omega)
 refine sx_tmpPT (t := 5) rfl h151 ?_
 refine sx_guardT rfl rfl rfl ?_
 refine sm rfl rfl rfl rfl ?_
 refine sx_guardT rfl rfl rfl ?_
 have f4 := hva0.ext c3
 refine sx_pure rfl rfl rfl (px_len rfl Tryz.underlying22 f4) ?_
 refine sx_guardT rfl rfl rfl ?_
 refine sx_pure rfl rfl rfl (px_eq rfl rfl) ?_
 refine sx_guardT rfl rfl rfl ?_
 refine sm rfl rfl rfl rfl ?_
 refine sx_tmpP (t := 9) rfl (fun h151x1 => ?_) (fun h151x1 => ?_)
 ·
  refine sx_guardF rfl rfl rfl rfl rfl rfl ?_
  refine sx_guardF rfl rfl rfl rfl rfl rfl ?_
  refine sx_guardF rfl rfl rfl rfl rfl rfl ?_
  refine sx_guardF rfl rfl rfl rfl rfl rfl ?_
  refine sx_guardF rfl rfl rfl rfl rfl rfl ?_
  refine sx_guardT rfl rfl rfl ?_
  refine sx_pure rfl rfl rfl (px_pick rfl rfl) ?_
  refine sx_pure rfl rfl rfl (px_pick rfl rfl) ?_
  refine sa rfl rfl rfl rfl ?_
  refine wl_nil (q_n (k2 _ _ ?_))
  refine sx_sub (Sub.cons (t := 2) rfl (.nil)) ?_
  refine sx_retc ?_
  refine sx_ret1 Tryz.results75 rfl ?_
  exact ⟨(by have hk := odd_dg (q := m); first | exact bTrue (hk.1 (.inl (by omega))) | exact bIff ⟨fun h => hk.1 (.inr h), fun h => (hk.2 h).resolve_left (by omega)⟩), c3⟩
 ·
  refine sx_guardT rfl rfl rfl ?_
  refine sm rfl rfl rfl rfl ?_
  refine sx_guardT rfl rfl rfl ?_
  refine sx_pure rfl rfl rfl (px_index1 (j := 0) rfl rfl (by omega) Tryz.underlying22 Tryz.sizeOf3 f4 (by omega)) ?_
  refine sx_guardT rfl rfl rfl ?_
  refine sx_pure rfl rfl rfl (px_load rfl (f4.load1 (at_int (by omega)) Tryz.isAgg3)) ?_
  refine sx_guardT rfl rfl rfl ?_
  refine sx_pure rfl rfl rfl (px_rem rfl rfl (by have := (Lm_dg m).getD 0; omega) (by omega)) ?_
  refine sx_guardT rfl rfl rfl ?_
  refine sx_pure rfl rfl rfl (px_eq rfl rfl) ?_
  refine sx_guardT rfl rfl rfl ?_
  refine sx_pure rfl rfl rfl (px_pick rfl rfl) ?_
  refine sx_pure rfl rfl rfl (px_pick rfl rfl) ?_
  refine sa rfl rfl rfl rfl ?_
  refine wl_nil (q_n (k2 _ _ ?_))
  refine sx_sub (Sub.cons (t := 2) rfl (.nil)) ?_
  refine sx_retc ?_
  refine sx_ret1 Tryz.results75 rfl ?_
  exact ⟨(by have hk := odd_dg (q := m); first | exact bTrue (hk.1 (.inl (by omega))) | exact bIff ⟨fun h => hk.1 (.inr h), fun h => (hk.2 h).resolve_left (by omega)⟩), c3⟩

theorem c_signed {w : World} {n : Bool} {va : Value} {lva uva : Nat} {zs : List Int} (hva : Sl w lva uva va (zs)) (h63 : zs.length ≤ 4611686018427387904) :
  Ret Tryz.prog 76 [.bool n, va] w fun v w' => v = .agg #[.bool (nz n zs), va] ∧ Chg 0 0 w w' := by
 have hva0 := hva.fit
 refine sx_enter Tryz.func76 rfl Tryz.ntmps76 (Nat.le_of_ble_eq_true rfl) ?_
 refine sx_seq fun K1 k1 => sx_region ?_
 refine sx_alloc [.bool false, (.slice none 0 0)] rfl Tryz.zeroValue28 rfl (fun b2 w3 eb2 sb2 fb2 cb2 => ?_)
 have zw3 := cb2.size
 refine wl_nil (q_n (k1 _ _ ?_))
 refine sx_seq fun K4 k4 => sx_region ?_
 refine sm rfl rfl rfl rfl ?_
 refine sm rfl rfl rfl rfl ?_
 refine sx_tmpB (t := 6) rfl (fun h16 => ?_) (fun h16 => ?_)
 ·
  refine sx_guardT rfl rfl rfl ?_
  refine sm rfl rfl rfl rfl ?_
  refine sx_guardT rfl rfl rfl ?_
  have f5 := hva0.ext cb2
  refine sx_pure rfl rfl rfl (px_len rfl Tryz.underlying22 f5) ?_
  refine sx_guardT rfl rfl rfl ?_
  refine sx_pure rfl rfl rfl (px_gt rfl rfl) ?_
  refine sx_pure rfl rfl rfl (px_pick rfl rfl) ?_
  refine sm rfl rfl rfl rfl ?_
  refine sx_pure rfl rfl rfl (px_build rfl (xbld28x0x1 rfl f5.one _)) ?_
  refine sx_store (vs := [.bool (decide ((0 : Int) < ↑((zs).length))), va]) rfl rfl fb2 rfl Tryz.sizeOf28 (Nat.le_of_ble_eq_true rfl) (one_cons rfl (one_cons f5.one one_nil)) (fun w6 sw6 fw6 cw6 => ?_)
  have zw6 := cw6.size
  have gw6 : Blk w6 b2 [.bool (decide ((0 : Int) < ↑((zs).length))), va] 28 := fw6
  refine wl_nil (q_n (k4 _ _ ?_))
  refine sx_retc ?_
  refine sx_ret1 Tryz.results76 ⟨_, rfl, gw6.loadA (vs := [.bool (decide ((0 : Int) < ↑((zs).length))), va]) (look_lit rfl) Tryz.isAgg28 Tryz.sizeOf28⟩ ?_
  have q7 := Chg.step (l := 0) (h := 0) (Chg.zero (l := 0) (h := 0) cb2) cw6 (by omega)
  exact ⟨(by simp [nz, h16]), q7⟩
 ·
  refine sx_guardF rfl rfl rfl rfl rfl rfl ?_
  refine sx_guardF rfl rfl rfl rfl rfl rfl ?_
  refine sx_guardF rfl rfl rfl rfl rfl rfl ?_
  refine sx_pure rfl rfl rfl (px_pick rfl rfl) ?_
  refine sm rfl rfl rfl rfl ?_
  have f8 := hva0.ext cb2
  refine sx_pure rfl rfl rfl (px_build rfl (xbld28x0x1 rfl f8.one _)) ?_
  refine sx_store (vs := [.bool false, va]) rfl rfl fb2 rfl Tryz.sizeOf28 (Nat.le_of_ble_eq_true rfl) (one_cons rfl (one_cons f8.one one_nil)) (fun w9 sw9 fw9 cw9 => ?_)
  have zw9 := cw9.size
  have gw9 : Blk w9 b2 [.bool false, va] 28 := fw9
  refine wl_nil (q_n (k4 _ _ ?_))
  refine sx_retc ?_
  refine sx_ret1 Tryz.results76 ⟨_, rfl, gw9.loadA (vs := [.bool false, va]) (look_lit rfl) Tryz.isAgg28 Tryz.sizeOf28⟩ ?_
  have q10 := Chg.step (l := 0) (h := 0) (Chg.zero (l := 0) (h := 0) cb2) cw9 (by omega)
  exact ⟨(by simp [nz, h16]), q10⟩

theorem c_roundQuotient {w : World} {va : Value} {lva uva : Nat} {x : Int} {vb : Value} {lvb uvb : Nat} {d : Nat} {m : Int} (hva : Sl w lva uva va (dg x.natAbs)) (hvb : Sl w lvb uvb vb (dg d)) (hbx : (dg x.natAbs).length ≤ 49) (hbd : (dg d).length ≤ 390) (hd0 : 0 < d) (hm : 0 ≤ m ∧ m ≤ 6) :
  Ret Tryz.prog 47 [.agg #[.bool (ng x), va], vb, .int .i64 m] w fun v w' => ∃ s, v = .agg #[.bool (ng (rqI x d m)), s] ∧ OwnI w' w.heap.size w'.heap.size s intT (dg (rqI x d m).natAbs) ∧ Chg 0 0 w w' := by
 have hva0 := hva.fit
 have hvb0 := hvb.fit
 have lq := len_div x.natAbs d
 have lr := len_mod (m := x.natAbs) hd0
 have lrr := len_add (x.natAbs % d) (x.natAbs % d)
 refine sx_enter Tryz.func47 rfl Tryz.ntmps47 (Nat.le_of_ble_eq_true rfl) ?_
 refine sx_seq fun K1 k1 => sx_region ?_
 refine sx_box [.bool (ng x), va] rfl rfl rfl (fun b2 w3 eb2 sb2 fb2 cb2 => ?_)
 have zw3 := cb2.size
 refine sx_alloc [.bool false, (.slice none 0 0)] rfl Tryz.zeroValue28 rfl (fun b4 w5 eb4 sb4 fb4 cb4 => ?_)
 have zw5 := cb4.size
 refine wl_nil (q_n (k1 _ _ ?_))
 refine sx_seq fun K6 k6 => sx_region ?_
 refine sx_pure rfl rfl rfl (px_field rfl xfld28x1) ?_
 have f7 := fb2.ext cb4
 refine sx_pure rfl rfl rfl (px_load rfl (f7.load1 rfl Tryz.isAgg22)) ?_
 refine sm rfl rfl rfl rfl ?_
 have f8 := hva0.ext cb2
 have f9 := f8.ext cb4
 have f10 := hvb0.ext cb2
 have f11 := f10.ext cb4
 refine sx_call rfl rfl Tryz.call71 (c_natDiv f9 f11 (by omega) (by omega) (hd0)) (fun v12 w12 p12 => ?_)
 obtain ⟨s12, t12, rfl, os_12, ot_12, c12⟩ := p12
 have zw12 := c12.size
 refine sm rfl rfl rfl rfl ?_
 refine sx_pure rfl rfl rfl (px_extract (vs := [s12, t12]) rfl rfl) ?_
 refine sx_pure rfl rfl rfl (px_extract (vs := [s12, t12]) rfl rfl) ?_
 refine sa rfl rfl rfl rfl ?_
 refine sa rfl rfl rfl rfl ?_
 refine wl_nil (q_n (k6 _ _ ?_))
 refine sx_seq fun K13 k13 => ?_
 refine sx_seq fun K14 k14 => ?_
 by_cases ph57 : 0 < (dg (x.natAbs % d)).length
 ·
  have f15 := f7.ext c12
  have f16 := fb4.ext c12
  have f17 := f9.ext c12
  have f18 := f11.ext c12
  refine dx_region (fun w' => Chg 0 0 w12 w') (by kernel_rfl) (Chg.zero (Chg.drew _)) ?_
  have d19 := Chg.drew w12
  have s19 : Chg 0 0 w12 (World.drew w12) := Chg.zero (Chg.drew _)
  have y19 : (World.drew w12).heap.size = w12.heap.size := rfl
  generalize World.drew w12 = w19 at *
  have zw19 := d19.size
  refine dx_take 0 rfl rfl rfl rfl (by kernel_rfl) (by kernel_rfl) (by kernel_rfl) s19 (fun _ hS => px_move rfl) ?_
  refine dx_take 1 rfl rfl rfl rfl (by kernel_rfl) (by kernel_rfl) (by kernel_rfl) s19 (fun _ hS => px_len rfl Tryz.underlying22 ((ot_12.sv).chg hS (by omega))) ?_
  refine dx_take 2 rfl rfl rfl rfl (by kernel_rfl) (by kernel_rfl) (by kernel_rfl) s19 (fun _ hS => px_gt rfl rfl) ?_
  refine dx_take 3 rfl rfl rfl rfl (by kernel_rfl) (by kernel_rfl) (by kernel_rfl) s19 (fun _ hS => px_move rfl) ?_
  have h57 : (0 : Int) < ↑((dg (x.natAbs % d)).length) := by omega
  refine dx_tmpPT (t := 19) rfl h57 ?_
  refine dx_takeG 5 rfl rfl rfl rfl rfl rfl (by kernel_rfl) (by kernel_rfl) (by kernel_rfl) s19 (fun _ hS => px_move rfl) ?_
  refine dx_takeG 8 rfl rfl rfl rfl rfl rfl (by kernel_rfl) (by kernel_rfl) (by kernel_rfl) s19 (fun _ hS => px_field rfl xfld28x0) ?_
  refine dx_takeG 9 rfl rfl rfl rfl rfl rfl (by kernel_rfl) (by kernel_rfl) (by kernel_rfl) s19 (fun _ hS => px_load rfl ((f15.chg hS (by omega)).load1 rfl Tryz.isAgg4)) ?_
  refine dx_takeG 10 rfl rfl rfl rfl rfl rfl (by kernel_rfl) (by kernel_rfl) (by kernel_rfl) s19 (fun _ hS => px_move rfl) ?_
  refine dx_takeG 11 rfl rfl rfl rfl rfl rfl (by kernel_rfl) (by kernel_rfl) (by kernel_rfl) s19 (fun _ hS => px_move rfl) ?_
  refine dx_takeG 13 rfl rfl rfl rfl rfl rfl (by kernel_rfl) (by kernel_rfl) (by kernel_rfl) s19 (fun _ hS => px_move rfl) ?_
  refine dx_takeG 15 rfl rfl rfl rfl rfl rfl (by kernel_rfl) (by kernel_rfl) (by kernel_rfl) s19 (fun _ hS => px_move rfl) ?_
  refine dx_eff 4 rfl (by kernel_rfl) ?_
  refine sx_guardT rfl rfl rfl ?_
  refine sx_call rfl rfl Tryz.call72 (c_roundModes) (fun v20 w20 p20 => ?_)
  obtain ⟨rfl, c20⟩ := p20
  have zw20 := c20.size
  have s21 : Chg 0 0 w12 w20 := (d19.t c20)
  refine wl_nil ?_
  refine dx_next s21 ?_
  refine dx_takeG 6 rfl rfl rfl rfl rfl rfl (by kernel_rfl) (by kernel_rfl) (by kernel_rfl) s21 (fun _ hS => px_indexRm rfl rfl (by omega)) ?_
  refine dx_takeG 7 rfl rfl rfl rfl rfl rfl (by kernel_rfl) (by kernel_rfl) (by kernel_rfl) s21 (fun _ hS => px_fieldv rfl (xfv85x1 _)) ?_
  refine dx_eff 12 rfl (by kernel_rfl) ?_
  refine sx_guardT rfl rfl rfl ?_
  have f22 := ot_12.ext d19
  have f23 := f22.ext c20
  refine sx_call rfl rfl Tryz.call74 (c_natAdd f23.sv f23.sv (by omega) (by omega)) (fun v24 w24 p24 => ?_)
  obtain ⟨s24, rfl, os_24, c24⟩ := p24
  have zw24 := c24.size
  have s25 : Chg 0 0 w12 w24 := ((d19.t c20).t c24)
  refine wl_nil ?_
  refine dx_next s25 ?_
  refine dx_eff 14 rfl (by kernel_rfl) ?_
  refine sx_guardT rfl rfl rfl ?_
  have f26 := f18.ext d19
  have f27 := f26.ext c20
  have f28 := f27.ext c24
  refine sx_call rfl rfl Tryz.call73 (c_natCmp os_24.sv f28 (by omega)) (fun v29 w29 p29 => ?_)
  obtain ⟨rfl, c29⟩ := p29
  have zw29 := c29.size
  have s30 : Chg 0 0 w12 w29 := (((d19.t c20).t c24).t c29)
  refine wl_nil ?_
  refine dx_next s30 ?_
  refine dx_eff 16 rfl (by kernel_rfl) ?_
  refine sx_guardT rfl rfl rfl ?_
  have f31 := os_12.ext d19
  have f32 := f31.ext c20
  have f33 := f32.ext c24
  have f34 := f33.ext c29
  refine sx_call rfl rfl Tryz.call75 (c_iNatEven f34.sv (by omega)) (fun v35 w35 p35 => ?_)
  obtain ⟨rfl, c35⟩ := p35
  have zw35 := c35.size
  have s36 : Chg 0 0 w12 w35 := ((((d19.t c20).t c24).t c29).t c35)
  refine wl_nil ?_
  refine dx_next s36 ?_
  refine dx_takeG 17 rfl rfl rfl rfl rfl rfl (by kernel_rfl) (by kernel_rfl) (by kernel_rfl) s36 (fun _ hS => px_notP rfl) ?_
  refine dx_eff 18 rfl (by kernel_rfl) ?_
  refine sx_guardT rfl rfl rfl ?_
  refine sx_callV rfl rfl rfl (rm_call (m := m) (by omega)) (c_away (m := m) (by omega)) (fun v37 w37 p37 => ?_)
  obtain ⟨rfl, c37⟩ := p37
  have zw37 := c37.size
  have s38 : Chg 0 0 w12 w37 := (((((d19.t c20).t c24).t c29).t c35).t c37)
  refine wl_nil ?_
  refine dx_next s38 ?_
  refine dx_take 19 rfl rfl rfl rfl (by kernel_rfl) (by kernel_rfl) (by kernel_rfl) s38 (fun _ hS => px_pick rfl rfl) ?_
  refine dx_done (by kernel_rfl) ?_
  refine q_n (k14 _ _ ?_)
  refine sx_sub (Sub.cons (t := 3) rfl (.cons (t := 6) rfl (.cons (t := 7) rfl (.cons (t := 35) rfl (.nil))))) ?_
  refine sx_condB rfl (fun h57x1 => ?_) (fun h57x1 => ?_)
  ·
   try rw [cmpL_dg] at h57x1
   try simp only [Decidable.not_not] at h57x1
   have e := rq_up (x := x) (d := d) (m := m) (len_pos.1 (by omega)) h57x1
   refine sx_region ?_
   refine sm rfl rfl rfl rfl ?_
   refine sx_lit1 rfl xelt22 rfl rfl (fun s39 ws39 ss39 fs39 cs39 => ?_)
   have ns39 := Own.norm (f := (Value.int .i64)) (zs := [1]) fs39
   have zws39 := cs39.size
   have f40 := f34.ext c35
   have f41 := f40.ext c37
   have f42 := f41.ext cs39
   refine sx_call rfl rfl Tryz.call74 (c_natAdd1 f42.sv ns39.sv (by omega) (rfl)) (fun v43 w43 p43 => ?_)
   obtain ⟨s43, rfl, os_43, c43⟩ := p43
   have zw43 := c43.size
   refine sa rfl rfl rfl rfl ?_
   refine wl_nil (q_n (k13 _ _ ?_))
   refine sx_seq fun K44 k44 => sx_region ?_
   refine sx_pure rfl rfl rfl (px_field rfl xfld28x0) ?_
   have f45 := f15.ext d19
   have f46 := f45.ext c20
   have f47 := f46.ext c24
   have f48 := f47.ext c29
   have f49 := f48.ext c35
   have f50 := f49.ext c37
   have f51 := f50.ext cs39
   have f52 := f51.ext c43
   refine sx_pure rfl rfl rfl (px_load rfl (f52.load1 rfl Tryz.isAgg4)) ?_
   refine sm rfl rfl rfl rfl ?_
   refine sx_call rfl rfl Tryz.call76 (c_signed os_43.sv (by have h9 := rq_len (x := x) (d := d) (m := m) hbx; rw [e] at h9; omega)) (fun v53 w53 p53 => ?_)
   obtain ⟨rfl, c53⟩ := p53
   have zw53 := c53.size
   have f55 := f16.ext d19
   have f56 := f55.ext c20
   have f57 := f56.ext c24
   have f58 := f57.ext c29
   have f59 := f58.ext c35
   have f60 := f59.ext c37
   have f61 := f60.ext cs39
   have f62 := f61.ext c43
   have f63 := f62.ext c53
   have f64 := os_43.ext c53
   refine sx_store (vs := [.bool (nz (ng x) (dg ((x.natAbs / d) + 1))), v43]) rfl rfl f63 rfl Tryz.sizeOf28 (Nat.le_of_ble_eq_true rfl) (one_cons rfl (one_cons f64.one one_nil)) (fun w54 sw54 fw54 cw54 => ?_)
   have zw54 := cw54.size
   have gw54 : Blk w54 b4 [.bool (nz (ng x) (dg ((x.natAbs / d) + 1))), v43] 28 := fw54
   refine wl_nil (q_n (k44 _ _ ?_))
   refine sx_retc ?_
   refine sx_ret1 Tryz.results47 ⟨_, rfl, gw54.loadA (vs := [.bool (nz (ng x) (dg ((x.natAbs / d) + 1))), v43]) (look_lit rfl) Tryz.isAgg28 Tryz.sizeOf28⟩ ?_
   have hh := rqI_sg x d m
   rw [e] at hh
   rw [← hh.1, ← hh.2]
   have q65 := Chg.step (l := 0) (h := 0) (Chg.zero (l := 0) (h := 0) (((((((((((cb2.t cb4).t c12).t d19).t c20).t c24).t c29).t c35).t c37).t cs39).t c43).t c53)) cw54 (by omega)
   have f66 := f64.chg cw54 (by omega)
   exact ⟨_, rfl, (Own.mono f66 (by omega) (by omega)), q65⟩
  ·
   try rw [cmpL_dg] at h57x1
   try simp only [Decidable.not_not] at h57x1
   have e := rq_dn (x := x) (d := d) (m := m) (fun hh => by have h9 := hh.2; rw [h57x1] at h9; cases h9)
   refine sx_skip ?_
   refine q_n (k13 _ _ ?_)
   refine sx_seq fun K67 k67 => sx_region ?_
   refine sx_pure rfl rfl rfl (px_field rfl xfld28x0) ?_
   have f68 := f15.ext d19
   have f69 := f68.ext c20
   have f70 := f69.ext c24
   have f71 := f70.ext c29
   have f72 := f71.ext c35
   have f73 := f72.ext c37
   refine sx_pure rfl rfl rfl (px_load rfl (f73.load1 rfl Tryz.isAgg4)) ?_
   refine sm rfl rfl rfl rfl ?_
   have f74 := f34.ext c35
   have f75 := f74.ext c37
   refine sx_call rfl rfl Tryz.call76 (c_signed f75.sv (by have h9 := rq_len (x := x) (d := d) (m := m) hbx; rw [e] at h9; omega)) (fun v76 w76 p76 => ?_)
   obtain ⟨rfl, c76⟩ := p76
   have zw76 := c76.size
   have f78 := f16.ext d19
   have f79 := f78.ext c20
   have f80 := f79.ext c24
   have f81 := f80.ext c29
   have f82 := f81.ext c35
   have f83 := f82.ext c37
   have f84 := f83.ext c76
   have f85 := f75.ext c76
   refine sx_store (vs := [.bool (nz (ng x) (dg (x.natAbs / d))), s12]) rfl rfl f84 rfl Tryz.sizeOf28 (Nat.le_of_ble_eq_true rfl) (one_cons rfl (one_cons f85.one one_nil)) (fun w77 sw77 fw77 cw77 => ?_)
   have zw77 := cw77.size
   have gw77 : Blk w77 b4 [.bool (nz (ng x) (dg (x.natAbs / d))), s12] 28 := fw77
   refine wl_nil (q_n (k67 _ _ ?_))
   refine sx_retc ?_
   refine sx_ret1 Tryz.results47 ⟨_, rfl, gw77.loadA (vs := [.bool (nz (ng x) (dg (x.natAbs / d))), s12]) (look_lit rfl) Tryz.isAgg28 Tryz.sizeOf28⟩ ?_
   have hh := rqI_sg x d m
   rw [e] at hh
   rw [← hh.1, ← hh.2]
   have q86 := Chg.step (l := 0) (h := 0) (Chg.zero (l := 0) (h := 0) (((((((((cb2.t cb4).t c12).t d19).t c20).t c24).t c29).t c35).t c37).t c76)) cw77 (by omega)
   have f87 := f85.chg cw77 (by omega)
   exact ⟨_, rfl, (Own.mono f87 (by omega) (by omega)), q86⟩
 ·
  have e := rq_dn (x := x) (d := d) (m := m) (fun hh => by have h9 := len_pos.2 hh.1; omega)
  have f88 := f7.ext c12
  have f89 := fb4.ext c12
  have f90 := f9.ext c12
  have f91 := f11.ext c12
  refine dx_region (fun w' => Chg 0 0 w12 w') (by kernel_rfl) (Chg.zero (Chg.drew _)) ?_
  have d92 := Chg.drew w12
  have s92 : Chg 0 0 w12 (World.drew w12) := Chg.zero (Chg.drew _)
  have y92 : (World.drew w12).heap.size = w12.heap.size := rfl
  generalize World.drew w12 = w92 at *
  have zw92 := d92.size
  refine dx_take 0 rfl rfl rfl rfl (by kernel_rfl) (by kernel_rfl) (by kernel_rfl) s92 (fun _ hS => px_move rfl) ?_
  refine dx_take 1 rfl rfl rfl rfl (by kernel_rfl) (by kernel_rfl) (by kernel_rfl) s92 (fun _ hS => px_len rfl Tryz.underlying22 ((ot_12.sv).chg hS (by omega))) ?_
  refine dx_take 2 rfl rfl rfl rfl (by kernel_rfl) (by kernel_rfl) (by kernel_rfl) s92 (fun _ hS => px_gt rfl rfl) ?_
  refine dx_take 3 rfl rfl rfl rfl (by kernel_rfl) (by kernel_rfl) (by kernel_rfl) s92 (fun _ hS => px_move rfl) ?_
  have h57 : ¬ ((0 : Int) < ↑((dg (x.natAbs % d)).length)) := by omega
  refine dx_tmpPF (t := 19) rfl h57 ?_
  refine dx_skip 4 rfl rfl rfl rfl rfl rfl rfl (by kernel_rfl) (by kernel_rfl) (by kernel_rfl) s92 ?_
  refine dx_skip 5 rfl rfl rfl rfl rfl rfl rfl (by kernel_rfl) (by kernel_rfl) (by kernel_rfl) s92 ?_
  refine dx_skip 6 rfl rfl rfl rfl rfl rfl rfl (by kernel_rfl) (by kernel_rfl) (by kernel_rfl) s92 ?_
  refine dx_skip 7 rfl rfl rfl rfl rfl rfl rfl (by kernel_rfl) (by kernel_rfl) (by kernel_rfl) s92 ?_
  refine dx_skip 8 rfl rfl rfl rfl rfl rfl rfl (by kernel_rfl) (by kernel_rfl) (by kernel_rfl) s92 ?_
  refine dx_skip 9 rfl rfl rfl rfl rfl rfl rfl (by kernel_rfl) (by kernel_rfl) (by kernel_rfl) s92 ?_
  refine dx_skip 10 rfl rfl rfl rfl rfl rfl rfl (by kernel_rfl) (by kernel_rfl) (by kernel_rfl) s92 ?_
  refine dx_skip 11 rfl rfl rfl rfl rfl rfl rfl (by kernel_rfl) (by kernel_rfl) (by kernel_rfl) s92 ?_
  refine dx_skip 12 rfl rfl rfl rfl rfl rfl rfl (by kernel_rfl) (by kernel_rfl) (by kernel_rfl) s92 ?_
  refine dx_skip 13 rfl rfl rfl rfl rfl rfl rfl (by kernel_rfl) (by kernel_rfl) (by kernel_rfl) s92 ?_
  refine dx_skip 14 rfl rfl rfl rfl rfl rfl rfl (by kernel_rfl) (by kernel_rfl) (by kernel_rfl) s92 ?_
  refine dx_skip 15 rfl rfl rfl rfl rfl rfl rfl (by kernel_rfl) (by kernel_rfl) (by kernel_rfl) s92 ?_
  refine dx_skip 16 rfl rfl rfl rfl rfl rfl rfl (by kernel_rfl) (by kernel_rfl) (by kernel_rfl) s92 ?_
  refine dx_skip 17 rfl rfl rfl rfl rfl rfl rfl (by kernel_rfl) (by kernel_rfl) (by kernel_rfl) s92 ?_
  refine dx_skip 18 rfl rfl rfl rfl rfl rfl rfl (by kernel_rfl) (by kernel_rfl) (by kernel_rfl) s92 ?_
  refine dx_take 19 rfl rfl rfl rfl (by kernel_rfl) (by kernel_rfl) (by kernel_rfl) s92 (fun _ hS => px_pick rfl rfl) ?_
  refine dx_done (by kernel_rfl) ?_
  refine q_n (k14 _ _ ?_)
  refine sx_sub (Sub.cons (t := 3) rfl (.cons (t := 6) rfl (.cons (t := 7) rfl (.cons (t := 35) rfl (.nil))))) ?_
  refine sx_condF rfl ?_
  refine sx_skip ?_
  refine q_n (k13 _ _ ?_)
  refine sx_seq fun K93 k93 => sx_region ?_
  refine sx_pure rfl rfl rfl (px_field rfl xfld28x0) ?_
  have f94 := f88.ext d92
  refine sx_pure rfl rfl rfl (px_load rfl (f94.load1 rfl Tryz.isAgg4)) ?_
  refine sm rfl rfl rfl rfl ?_
  have f95 := os_12.ext d92
  refine sx_call rfl rfl Tryz.call76 (c_signed f95.sv (by have h9 := rq_len (x := x) (d := d) (m := m) hbx; rw [e] at h9; omega)) (fun v96 w96 p96 => ?_)
  obtain ⟨rfl, c96⟩ := p96
  have zw96 := c96.size
  have f98 := f89.ext d92
  have f99 := f98.ext c96
  have f100 := f95.ext c96
  refine sx_store (vs := [.bool (nz (ng x) (dg (x.natAbs / d))), s12]) rfl rfl f99 rfl Tryz.sizeOf28 (Nat.le_of_ble_eq_true rfl) (one_cons rfl (one_cons f100.one one_nil)) (fun w97 sw97 fw97 cw97 => ?_)
  have zw97 := cw97.size
  have gw97 : Blk w97 b4 [.bool (nz (ng x) (dg (x.natAbs / d))), s12] 28 := fw97
  refine wl_nil (q_n (k93 _ _ ?_))
  refine sx_retc ?_
  refine sx_ret1 Tryz.results47 ⟨_, rfl, gw97.loadA (vs := [.bool (nz (ng x) (dg (x.natAbs / d))), s12]) (look_lit rfl) Tryz.isAgg28 Tryz.sizeOf28⟩ ?_
  have hh := rqI_sg x d m
  rw [e] at hh
  rw [← hh.1, ← hh.2]
  have q101 := Chg.step (l := 0) (h := 0) (Chg.zero (l := 0) (h := 0) ((((cb2.t cb4).t c12).t d92).t c96)) cw97 (by omega)
  have f102 := f100.chg cw97 (by omega)
  exact ⟨_, rfl, (Own.mono f102 (by omega) (by omega)), q101⟩

theorem c_iRatRound {w : World} {n1 : Bool} {v1 : Value} {lv1 uv1 : Nat} {z1 : List Int} {d1 : Value} {ld1 ud1 : Nat} {y1 : List Int} {m : Int} (hv1 : Sl w lv1 uv1 v1 (z1)) (hd1 : Sl w ld1 ud1 d1 (y1)) (h63 : z1.length ≤ 4611686018427387904 ∧ y1.length ≤ 4611686018427387904) :
  Ret Tryz.prog 32 [.agg #[.bool n1, v1, d1], .int .i64 m] w fun v w' => ∃ s, v = .tuple #[.agg #[.bool ((rRound n1 z1 y1 m).1), s], .bool ((rRound n1 z1 y1 m).2.2)] ∧ OwnI w' w.heap.size w'.heap.size s intT ((rRound n1 z1 y1 m).2.1) ∧ ((rRound n1 z1 y1 m).2.1.length ≤ 19) ∧ Chg 0 0 w w' := by
 have hv10 := hv1.fit
 have hd10 := hd1.fit
 refine sx_enter Tryz.func32 rfl Tryz.ntmps32 (Nat.le_of_ble_eq_true rfl) ?_
 refine sx_seq fun K1 k1 => sx_region ?_
 refine sx_box [.bool n1, v1, d1] rfl rfl rfl (fun b2 w3 eb2 sb2 fb2 cb2 => ?_)
 have zw3 := cb2.size
 refine sx_alloc [.bool false, (.slice none 0 0)] rfl Tryz.zeroValue28 rfl (fun b4 w5 eb4 sb4 fb4 cb4 => ?_)
 have zw5 := cb4.size
 refine sa rfl rfl rfl rfl ?_
 refine wl_nil (q_n (k1 _ _ ?_))
 refine sx_seq fun K6 k6 => ?_
 refine sx_seq fun K7 k7 => sx_region ?_
 have f8 := fb2.ext cb4
 refine sx_pure rfl rfl rfl (px_load rfl (f8.loadA (vs := [.bool n1, v1, d1]) (look_lit rfl) Tryz.isAgg32 Tryz.sizeOf32)) ?_
 have f9 := hv10.ext cb2
 have f10 := f9.ext cb4
 have f11 := hd10.ext cb2
 have f12 := f11.ext cb4
 refine sx_call rfl rfl Tryz.call45 (c_iRatOk f10 f12 (by omega)) (fun v13 w13 p13 => ?_)
 obtain ⟨rfl, c13⟩ := p13
 have zw13 := c13.size
 refine sx_pure rfl rfl rfl (px_notP rfl) ?_
 refine sm rfl rfl rfl rfl ?_
 refine sx_tmpP (t := 9) rfl (fun h74 => ?_) (fun h74 => ?_)
 ·
  refine sx_guardF rfl rfl rfl rfl rfl rfl ?_
  refine sx_guardF rfl rfl rfl rfl rfl rfl ?_
  refine sx_guardF rfl rfl rfl rfl rfl rfl ?_
  refine sx_pure rfl rfl rfl (px_pick rfl rfl) ?_
  refine wl_nil (q_n (k7 _ _ ?_))
  refine sx_condT rfl ?_
  refine sx_seq fun K14 k14 => sx_region ?_
  refine sx_pure rfl rfl rfl (px_build rfl (xbld28x  _)) ?_
  have f16 := fb4.ext c13
  refine sx_store (vs := [.bool false, (.slice none 0 0)]) rfl rfl f16 rfl Tryz.sizeOf28 (Nat.le_of_ble_eq_true rfl) (one_cons rfl (one_cons rfl one_nil)) (fun w15 sw15 fw15 cw15 => ?_)
  have zw15 := cw15.size
  have gw15 : Blk w15 b4 [.bool false, (.slice none 0 0)] 28 := fw15
  refine sa rfl rfl rfl rfl ?_
  refine wl_nil (q_n (k14 _ _ ?_))
  refine sx_retc ?_
  refine q_r (sx_ret2 Tryz.results32 ⟨_, rfl, gw15.loadA (vs := [.bool false, (.slice none 0 0)]) (look_lit rfl) Tryz.isAgg28 Tryz.sizeOf28⟩ rfl ?_)
  rw [rRound_no (by grind)]
  have q17 := Chg.step (l := 0) (h := 0) (Chg.zero (l := 0) (h := 0) ((cb2.t cb4).t c13)) cw15 (by omega)
  exact ⟨_, rfl, Own.nil _ _ _ _ _, by simp [noS], q17⟩
 ·
  refine sx_guardT rfl rfl rfl ?_
  refine sm rfl rfl rfl rfl ?_
  refine sx_guardT rfl rfl rfl ?_
  refine sx_call rfl rfl Tryz.call46 (c_isMode) (fun v18 w18 p18 => ?_)
  obtain ⟨rfl, c18⟩ := p18
  have zw18 := c18.size
  refine sx_guardT rfl rfl rfl ?_
  refine sx_pure rfl rfl rfl (px_notP rfl) ?_
  refine sx_pure rfl rfl rfl (px_pick rfl rfl) ?_
  refine wl_nil (q_n (k7 _ _ ?_))
  refine sx_condP rfl (fun h74x1 => ?_) (fun h74x1 => ?_)
  ·
   refine sx_seq fun K19 k19 => sx_region ?_
   refine sx_pure rfl rfl rfl (px_build rfl (xbld28x  _)) ?_
   have f21 := fb4.ext c13
   have f22 := f21.ext c18
   refine sx_store (vs := [.bool false, (.slice none 0 0)]) rfl rfl f22 rfl Tryz.sizeOf28 (Nat.le_of_ble_eq_true rfl) (one_cons rfl (one_cons rfl one_nil)) (fun w20 sw20 fw20 cw20 => ?_)
   have zw20 := cw20.size
   have gw20 : Blk w20 b4 [.bool false, (.slice none 0 0)] 28 := fw20
   refine sa rfl rfl rfl rfl ?_
   refine wl_nil (q_n (k19 _ _ ?_))
   refine sx_retc ?_
   refine q_r (sx_ret2 Tryz.results32 ⟨_, rfl, gw20.loadA (vs := [.bool false, (.slice none 0 0)]) (look_lit rfl) Tryz.isAgg28 Tryz.sizeOf28⟩ rfl ?_)
   rw [rRound_no (by grind)]
   have q23 := Chg.step (l := 0) (h := 0) (Chg.zero (l := 0) (h := 0) (((cb2.t cb4).t c13).t c18)) cw20 (by omega)
   exact ⟨_, rfl, Own.nil _ _ _ _ _, by simp [noS], q23⟩
  ·
   have hR := Decidable.not_not.1 h74
   have hM := Decidable.not_not.1 h74x1
   obtain ⟨x1, e1, rfl, rfl, rfl, he0, hx1, he1, hg1⟩ := hR.rat
   refine sx_skip ?_
   refine q_n (k6 _ _ ?_)
   refine sx_seq fun K24 k24 => sx_region ?_
   refine sx_pure rfl rfl rfl (px_field rfl xfld32x0) ?_
   have f25 := f8.ext c13
   have f26 := f25.ext c18
   refine sx_pure rfl rfl rfl (px_load rfl (f26.loadA (vs := [.bool (ng x1), v1]) (look_lit rfl) Tryz.isAgg28 Tryz.sizeOf28)) ?_
   refine sx_pure rfl rfl rfl (px_field rfl xfld32x1) ?_
   refine sx_pure rfl rfl rfl (px_load rfl (f26.load1 rfl Tryz.isAgg22)) ?_
   refine sm rfl rfl rfl rfl ?_
   have f27 := f10.ext c13
   have f28 := f27.ext c18
   have f29 := f12.ext c13
   have f30 := f29.ext c18
   refine sx_call rfl rfl Tryz.call47 (c_roundQuotient f28 f30 (by omega) (by omega) (by omega) (by omega)) (fun v31 w31 p31 => ?_)
   obtain ⟨s31, rfl, os_31, c31⟩ := p31
   have zw31 := c31.size
   have f33 := fb4.ext c13
   have f34 := f33.ext c18
   have f35 := f34.ext c31
   refine sx_store (vs := [.bool (ng (rqI x1 e1 m)), s31]) rfl rfl f35 rfl Tryz.sizeOf28 (Nat.le_of_ble_eq_true rfl) (one_cons rfl (one_cons os_31.one one_nil)) (fun w32 sw32 fw32 cw32 => ?_)
   have zw32 := cw32.size
   have gw32 : Blk w32 b4 [.bool (ng (rqI x1 e1 m)), s31] 28 := fw32
   refine sa rfl rfl rfl rfl ?_
   refine wl_nil (q_n (k24 _ _ ?_))
   refine sx_sub (Sub.cons (t := 4) rfl (.cons (t := 5) rfl (.nil))) ?_
   refine sx_retc ?_
   refine sx_ret2 Tryz.results32 ⟨_, rfl, gw32.loadA (vs := [.bool (ng (rqI x1 e1 m)), s31]) (look_lit rfl) Tryz.isAgg28 Tryz.sizeOf28⟩ rfl ?_
   have hrl := rRound_len (n := ng x1) (z := dg x1.natAbs) (y := dg e1) (m := m)
   rw [rRound_ok ⟨hR, hM⟩] at hrl ⊢
   have q36 := Chg.step (l := 0) (h := 0) (Chg.zero (l := 0) (h := 0) ((((cb2.t cb4).t c13).t c18).t c31)) cw32 (by omega)
   have f37 := os_31.chg cw32 (by omega)
   exact ⟨_, rfl, (Own.mono f37 (by omega) (by omega)), hrl, q36⟩

theorem c_iIntOf {w : World} {n : Int} (hn : -9223372036854775808 ≤ n ∧ n ≤ 9223372036854775807) :
  Ret Tryz.prog 49 [.int .i64 n] w fun v w' => ∃ s, v = .agg #[.bool (ng n), s] ∧ OwnI w' w.heap.size w'.heap.size s intT (dg (n).natAbs) ∧ Chg 0 0 w w' := by
 refine sx_enter Tryz.func49 rfl Tryz.ntmps49 (Nat.le_of_ble_eq_true rfl) ?_
 refine sx_seq fun K1 k1 => sx_region ?_
 refine sx_alloc [.bool false, (.slice none 0 0)] rfl Tryz.zeroValue28 rfl (fun b2 w3 eb2 sb2 fb2 cb2 => ?_)
 have zw3 := cb2.size
 refine wl_nil (q_n (k1 _ _ ?_))
 refine sx_seq fun K4 k4 => ?_
 refine sx_seq fun K5 k5 => sx_region ?_
 refine sm rfl rfl rfl rfl ?_
 refine sx_pure rfl rfl rfl (px_lt rfl rfl) ?_
 refine wl_nil (q_n (k5 _ _ ?_))
 refine sx_condP rfl (fun h23 => ?_) (fun h23 => ?_)
 ·
  refine sx_seq fun K6 k6 => sx_region ?_
  refine sm rfl rfl rfl rfl ?_
  refine sx_pure rfl rfl rfl (px_convUn Tryz.underlying3 Tryz.underlying90 rfl (by omega)) ?_
  refine sx_pure rfl rfl rfl (px_negU rfl (by omega)) ?_
  refine sx_call rfl rfl Tryz.call79 (c_natOf (by omega)) (fun v7 w7 p7 => ?_)
  obtain ⟨s7, rfl, os_7, c7⟩ := p7
  have zw7 := c7.size
  refine sx_pure rfl rfl rfl (px_build rfl (xbld28x0x1 rfl os_7.one _)) ?_
  have f9 := fb2.ext c7
  refine sx_store (vs := [.bool true, v7]) rfl rfl f9 rfl Tryz.sizeOf28 (Nat.le_of_ble_eq_true rfl) (one_cons rfl (one_cons os_7.one one_nil)) (fun w8 sw8 fw8 cw8 => ?_)
  have zw8 := cw8.size
  have gw8 : Blk w8 b2 [.bool true, v7] 28 := fw8
  refine wl_nil (q_n (k6 _ _ ?_))
  refine sx_retc ?_
  refine q_r (sx_ret1 Tryz.results49 ⟨_, rfl, gw8.loadA (vs := [.bool true, v7]) (look_lit rfl) Tryz.isAgg28 Tryz.sizeOf28⟩ ?_)
  have e1 : (18446744073709551616 - (n + 18446744073709551616)).toNat = n.natAbs := by omega
  have e2 : ng n = true := ng_true.2 (by omega)
  rw [e2, ← e1]
  have q10 := Chg.step (l := 0) (h := 0) (Chg.zero (l := 0) (h := 0) (cb2.t c7)) cw8 (by omega)
  have f11 := os_7.chg cw8 (by omega)
  exact ⟨_, rfl, (Own.mono f11 (by omega) (by omega)), q10⟩
 ·
  refine sx_skip ?_
  refine q_n (k4 _ _ ?_)
  refine sx_seq fun K12 k12 => sx_region ?_
  refine sm rfl rfl rfl rfl ?_
  refine sx_pure rfl rfl rfl (px_convU Tryz.underlying3 Tryz.underlying90 rfl (by omega)) ?_
  refine sx_call rfl rfl Tryz.call79 (c_natOf (by omega)) (fun v13 w13 p13 => ?_)
  obtain ⟨s13, rfl, os_13, c13⟩ := p13
  have zw13 := c13.size
  refine sx_pure rfl rfl rfl (px_build rfl (xbld28x0x1 rfl os_13.one _)) ?_
  have f15 := fb2.ext c13
  refine sx_store (vs := [.bool false, v13]) rfl rfl f15 rfl Tryz.sizeOf28 (Nat.le_of_ble_eq_true rfl) (one_cons rfl (one_cons os_13.one one_nil)) (fun w14 sw14 fw14 cw14 => ?_)
  have zw14 := cw14.size
  have gw14 : Blk w14 b2 [.bool false, v13] 28 := fw14
  refine wl_nil (q_n (k12 _ _ ?_))
  refine sx_retc ?_
  refine sx_ret1 Tryz.results49 ⟨_, rfl, gw14.loadA (vs := [.bool false, v13]) (look_lit rfl) Tryz.isAgg28 Tryz.sizeOf28⟩ ?_
  have e1 : n.toNat = n.natAbs := by omega
  have e2 : ng n = false := ng_false.2 (by omega)
  rw [e2, ← e1]
  have q16 := Chg.step (l := 0) (h := 0) (Chg.zero (l := 0) (h := 0) (cb2.t c13)) cw14 (by omega)
  have f17 := os_13.chg cw14 (by omega)
  exact ⟨_, rfl, (Own.mono f17 (by omega) (by omega)), q16⟩

theorem c_intsOk {w : World} {n1 : Bool} {v1 : Value} {lv1 uv1 : Nat} {z1 : List Int} {n2 : Bool} {v2 : Value} {lv2 uv2 : Nat} {z2 : List Int} (hv1 : Sl w lv1 uv1 v1 (z1)) (hv2 : Sl w lv2 uv2 v2 (z2)) (h63 : z1.length ≤ 4611686018427387904 ∧ z2.length ≤ 4611686018427387904) :
  Ret Tryz.prog 77 [.agg #[.bool n1, v1], .agg #[.bool n2, v2]] w fun v w' => v = .bool (decide (IOk n1 z1 ∧ IOk n2 z2)) ∧ Chg 0 0 w w' := by
 have hv10 := hv1.fit
 have hv20 := hv2.fit
 refine sx_enter Tryz.func77 rfl Tryz.ntmps77 (Nat.le_of_ble_eq_true rfl) ?_
 refine sx_seq fun K1 k1 => sx_region ?_
 refine sx_box [.bool n1, v1] rfl rfl rfl (fun b2 w3 eb2 sb2 fb2 cb2 => ?_)
 have zw3 := cb2.size
 refine sx_box [.bool n2, v2] rfl rfl rfl (fun b4 w5 eb4 sb4 fb4 cb4 => ?_)
 have zw5 := cb4.size
 refine sa rfl rfl rfl rfl ?_
 refine wl_nil (q_n (k1 _ _ ?_))
 refine sx_seq fun K6 k6 => sx_region ?_
 have f7 := fb2.ext cb4
 refine sx_pure rfl rfl rfl (px_load rfl (f7.loadA (vs := [.bool n1, v1]) (look_lit rfl) Tryz.isAgg28 Tryz.sizeOf28)) ?_
 have f8 := hv10.ext cb2
 have f9 := f8.ext cb4
 refine sx_call rfl rfl Tryz.call54 (c_iIntOk f9 (by omega)) (fun v10 w10 p10 => ?_)
 obtain ⟨rfl, c10⟩ := p10
 have zw10 := c10.size
 refine sm rfl rfl rfl rfl ?_
 refine sx_tmpP (t := 7) rfl (fun h13 => ?_) (fun h13 => ?_)
 ·
  refine sx_guardT rfl rfl rfl ?_
  have f11 := fb4.ext c10
  refine sx_pure rfl rfl rfl (px_load rfl (f11.loadA (vs := [.bool n2, v2]) (look_lit rfl) Tryz.isAgg28 Tryz.sizeOf28)) ?_
  refine sx_guardT rfl rfl rfl ?_
  have f12 := hv20.ext cb2
  have f13 := f12.ext cb4
  have f14 := f13.ext c10
  refine sx_call rfl rfl Tryz.call54 (c_iIntOk f14 (by omega)) (fun v15 w15 p15 => ?_)
  obtain ⟨rfl, c15⟩ := p15
  have zw15 := c15.size
  refine sx_pure rfl rfl rfl (px_pick rfl rfl) ?_
  refine sa rfl rfl rfl rfl ?_
  refine wl_nil (q_n (k6 _ _ ?_))
  refine sx_retc ?_
  refine sx_ret1 Tryz.results77 rfl ?_
  exact ⟨(by first | exact bTrue (by grind) | exact bFalse (by grind) | exact bIff (by grind)), (((cb2.t cb4).t c10).t c15)⟩
 ·
  refine sx_guardF rfl rfl rfl rfl rfl rfl ?_
  refine sx_guardF rfl rfl rfl rfl rfl rfl ?_
  refine sx_pure rfl rfl rfl (px_pick rfl rfl) ?_
  refine sa rfl rfl rfl rfl ?_
  refine wl_nil (q_n (k6 _ _ ?_))
  refine sx_retc ?_
  refine sx_ret1 Tryz.results77 rfl ?_
  exact ⟨(by first | exact bTrue (by grind) | exact bFalse (by grind) | exact bIff (by grind)), ((cb2.t cb4).t c10)⟩

end Go.Proofs.YtfoceofnldnbgaaGreatDoor
