/- Contracts of functions of the program: what each call returns, and that it changes nothing that was. Conditions: as each says. -/
import Derived.Test.YtcghgfmickgnkaaGreatDoorTy
import Derived.Test.YtcghgfmickgnkaaGreatDoorNatN
import Derived.Test.YtcghgfmickgnkaaGreatDoorSxD
import Derived.Test.YtcghgfmickgnkaaGreatDoorPair
import Derived.Test.YtcghgfmickgnkaaGreatDoorRm
import Derived.Test.YtcghgfmickgnkaaGreatDoorK0
import Derived.Test.YtcghgfmickgnkaaGreatDoorK3
import Derived.Test.YtcghgfmickgnkaaGreatDoorK4
set_option linter.unusedVariables false
set_option linter.unusedSimpArgs false
namespace Go.Proofs.YtcghgfmickgnkaaGreatDoor
open Go Go.RowKit
set_option maxRecDepth 100000
set_option maxHeartbeats 1000000
theorem law_Exact {w : World} {pv : ByteArray} {vt : Value} {lvt uvt : Nat} {ts : List Rt} {vvt : List Value} {c1 : ByteArray} {n1 : Bool} {v1 : Value} {lv1 uv1 : Nat} {z1 : List Int} {to : ByteArray} (hG0 : Glob w) (hvt : RtS w lvt uvt vt ts vvt) (hv1 : Sl w lv1 uv1 v1 (z1)) (bpv : pv.size ≤ 9223372036854775807) (bts : ts.length ≤ 9223372036854775807) (hb : ∀ i, i < ts.length → RB (ts.getD i rt0)) (bc1 : c1.size ≤ 9223372036854775807) (bz1 : z1.length ≤ 9223372036854775807) (bto : to.size ≤ 9223372036854775807) :
  Ret Tryz.prog 5 [.agg #[.string pv, vt], .agg #[.string c1, .bool n1, v1], .string to] w fun v w' => v = .bool (true) ∧ Chg 0 0 w w' := by
 have hvt0 := hvt.fit
 have hv10 := hv1.fit
 have hG0l : 0 < w.heap.size := by obtain ⟨T, fz, h1⟩ := hG0; rcases Nat.lt_or_ge 0 w.heap.size with h2 | h2; exact h2; simp [Array.getElem?_eq_none h2] at h1
 refine sx_enter Tryz.func5 rfl Tryz.ntmps5 (Nat.le_of_ble_eq_true rfl) ?_
 refine sx_seq fun K1 k1 => sx_region ?_
 refine sx_box [.string pv, vt] rfl rfl rfl (fun b2 w3 eb2 sb2 fb2 cb2 => ?_)
 have zw3 := cb2.size
 refine sx_box [.string c1, .bool n1, v1] rfl rfl rfl (fun b4 w5 eb4 sb4 fb4 cb4 => ?_)
 have zw5 := cb4.size
 refine sa rfl rfl rfl rfl ?_
 refine wl_nil (q_n (k1 _ _ ?_))
 refine sx_seq fun K6 k6 => ?_
 refine sx_seq fun K7 k7 => sx_region ?_
 refine sm rfl rfl rfl rfl ?_
 refine sx_pure rfl rfl rfl (px_lenS rfl Tryz.underlying9) ?_
 refine sx_pure rfl rfl rfl (px_gt rfl rfl) ?_
 refine wl_nil (q_n (k7 _ _ ?_))
 refine sx_condP rfl (fun h5724 => ?_) (fun h5724 => ?_)
 ·
  refine sx_seq fun K8 k8 => sx_region ?_
  refine sa rfl rfl rfl rfl ?_
  refine wl_nil (q_n (k8 _ _ ?_))
  refine sx_retc ?_
  refine q_r (sx_ret1 Tryz.results5 rfl ?_)
  exact ⟨rfl, (cb2.t cb4)⟩
 ·
  refine sx_skip ?_
  refine q_n (k6 _ _ ?_)
  refine sx_seq fun K9 k9 => sx_region ?_
  refine sa rfl rfl rfl rfl ?_
  refine wl_nil (q_n (k9 _ _ ?_))
  refine sx_seq fun K10 k10 => sx_region ?_
  have f11 := fb2.ext cb4
  refine sx_pure rfl rfl rfl (px_load rfl (f11.loadA (vs := [.string pv, vt]) (look_lit rfl) Tryz.isAgg24 Tryz.sizeOf24)) ?_
  refine sm rfl rfl rfl rfl ?_
  have f12 := hvt0.ext cb2
  have f13 := f12.ext cb4
  refine sx_call rfl rfl Tryz.call7 (c_szRates f13 (by omega) (by omega) (by assumption) (by omega)) (fun v14 w14 p14 => ?_)
  obtain ⟨r14, rfl, hr14, hzz14, c14⟩ := p14
  have zw14 := c14.size
  have hzs := hzz14
  refine sa rfl rfl rfl rfl ?_
  refine wl_nil (q_n (k10 _ _ ?_))
  refine sx_seq fun K15 k15 => ?_
  refine sx_seq fun K16 k16 => sx_region ?_
  refine sm rfl rfl rfl rfl ?_
  refine sx_pure rfl rfl rfl (px_lt rfl rfl) ?_
  refine wl_nil (q_n (k16 _ _ ?_))
  refine sx_sub (Sub.cons (t := 2) rfl (.cons (t := 3) rfl (.cons (t := 4) rfl (.cons (t := 6) rfl (.cons (t := 7) rfl (.cons (t := 26) rfl (.nil))))))) ?_
  refine sx_condP rfl (fun h5729 => ?_) (fun h5729 => ?_)
  ·
   refine sx_seq fun K17 k17 => sx_region ?_
   refine sa rfl rfl rfl rfl ?_
   refine wl_nil (q_n (k17 _ _ ?_))
   refine sx_retc ?_
   refine q_r (sx_ret1 Tryz.results5 rfl ?_)
   exact ⟨rfl, ((cb2.t cb4).t c14)⟩
  ·
   replace hr14 := hr14.resolve_left h5729
   refine sx_skip ?_
   refine q_n (k15 _ _ ?_)
   refine sx_seq fun K18 k18 => sx_region ?_
   have f19 := fb4.ext c14
   refine sx_pure rfl rfl rfl (px_load rfl (f19.loadA (vs := [.string c1, .bool n1, v1]) (look_lit rfl) Tryz.isAgg44 Tryz.sizeOf44)) ?_
   refine sm rfl rfl rfl rfl ?_
   have f20 := hv10.ext cb2
   have f21 := f20.ext cb4
   have f22 := f21.ext c14
   refine sx_call rfl rfl Tryz.call18 (c_szMoney f22 (by omega) (by omega) (by omega)) (fun v23 w23 p23 => ?_)
   obtain ⟨r23, rfl, hr23, c23⟩ := p23
   have zw23 := c23.size
   refine sa rfl rfl rfl rfl ?_
   refine wl_nil (q_n (k18 _ _ ?_))
   refine sx_seq fun K24 k24 => ?_
   refine sx_seq fun K25 k25 => sx_region ?_
   refine sm rfl rfl rfl rfl ?_
   refine sx_pure rfl rfl rfl (px_lt rfl rfl) ?_
   refine wl_nil (q_n (k25 _ _ ?_))
   refine sx_condP rfl (fun h5733 => ?_) (fun h5733 => ?_)
   ·
    refine sx_seq fun K26 k26 => sx_region ?_
    refine sa rfl rfl rfl rfl ?_
    refine wl_nil (q_n (k26 _ _ ?_))
    refine sx_retc ?_
    refine q_r (sx_ret1 Tryz.results5 rfl ?_)
    exact ⟨rfl, (((cb2.t cb4).t c14).t c23)⟩
   ·
    replace hr23 := hr23.resolve_left h5733
    refine sx_skip ?_
    refine q_n (k24 _ _ ?_)
    refine sx_seq fun K27 k27 => ?_
    refine sx_cut k27 (fun fr w' => ∃ (gb28x0 : Nat) (gs28x1 : Value) (gl28x1 : Nat) (gu28x1 : Nat) (gs28x2 : Value) (gl28x2 : Nat) (gu28x2 : Nat), fr = [(2, .string to), (3, .pointer (some ⟨b2, 0, none⟩)), (4, .pointer (some ⟨b4, 0, none⟩)), (6, .bool false), (8, .pointer (some ⟨gb28x0, 0, none⟩)), (9, .bool ((exct pv ts c1 n1 z1 to).2.2.2))] ∧ Chg 0 0 w23 w' ∧ (Blk w' gb28x0 [.bool ((exct pv ts c1 n1 z1 to).1), gs28x1, gs28x2] 30) ∧ (Own w' gl28x1 gu28x1 gs28x1 intT (((exct pv ts c1 n1 z1 to).2.1).length) 1 (((exct pv ts c1 n1 z1 to).2.1).map (Value.int .i64))) ∧ (Own w' gl28x2 gu28x2 gs28x2 intT (((exct pv ts c1 n1 z1 to).2.2.1).length) 1 (((exct pv ts c1 n1 z1 to).2.2.1).map (Value.int .i64))) ∧ (w23.heap.size ≤ gb28x0 ∧ gb28x0 + 1 ≤ w'.heap.size) ∧ (w23.heap.size ≤ gl28x1 ∧ gu28x1 ≤ w'.heap.size) ∧ (w23.heap.size ≤ gl28x2 ∧ gu28x2 ≤ w'.heap.size) ∧ (gu28x1 ≤ gb28x0 ∨ gb28x0 + 1 ≤ gl28x1) ∧ (gu28x2 ≤ gb28x0 ∨ gb28x0 + 1 ≤ gl28x2) ∧ (gu28x2 ≤ gl28x1 ∨ gu28x1 ≤ gl28x2)) (fun kc28 => ?_) ?_
    ·
     have f29 := hG0.ext cb2
     have f30 := f29.ext cb4
     have f31 := f30.ext c14
     have f32 := f31.ext c23
     have f33 := f11.ext c14
     have f34 := f33.ext c23
     have f35 := f19.ext c23
     have f36 := f13.ext c14
     have f37 := f36.ext c23
     have f38 := f22.ext c23
     refine dx_region (fun w' => Chg 0 0 w23 w') (by kernel_rfl) (Chg.zero (Chg.drew _)) ?_
     have d39 := Chg.drew w23
     have s39 : Chg 0 0 w23 (World.drew w23) := Chg.zero (Chg.drew _)
     have y39 : (World.drew w23).heap.size = w23.heap.size := rfl
     generalize World.drew w23 = w39 at *
     have zw39 := d39.size
     refine dx_take 0 rfl rfl rfl rfl (by kernel_rfl) (by kernel_rfl) (by kernel_rfl) s39 (fun _ hS => px_load rfl ((f34.chg hS (by omega)).loadA (vs := [.string pv, vt]) (look_lit rfl) Tryz.isAgg24 Tryz.sizeOf24)) ?_
     refine dx_take 2 rfl rfl rfl rfl (by kernel_rfl) (by kernel_rfl) (by kernel_rfl) s39 (fun _ hS => px_load rfl ((f35.chg hS (by omega)).loadA (vs := [.string c1, .bool n1, v1]) (look_lit rfl) Tryz.isAgg44 Tryz.sizeOf44)) ?_
     refine dx_take 4 rfl rfl rfl rfl (by kernel_rfl) (by kernel_rfl) (by kernel_rfl) s39 (fun _ hS => px_move rfl) ?_
     refine dx_eff2 1 9 rfl rfl (by kernel_rfl) ?_ ?_
     ·
      have f40 := f37.ext d39
      refine sx_call rfl rfl Tryz.call9 (c_toRates f40 (by omega) (hzs (by omega))) (fun v41 w41 p41 => ?_)
      obtain ⟨s41, us41, rfl, os_41, c41⟩ := p41
      have zw41 := c41.size
      have s42 : Chg 0 0 w23 w41 := (d39.t c41)
      refine wl_nil ?_
      refine dx_next s42 ?_
      refine dx_eff2 3 9 rfl rfl (by kernel_rfl) ?_ ?_
      ·
       have f43 := f38.ext d39
       have f44 := f43.ext c41
       refine sx_call rfl rfl Tryz.call20 (c_toMoney f44 (by omega)) (fun v45 w45 p45 => ?_)
       obtain ⟨s245, rfl, os2_45, c45⟩ := p45
       have zw45 := c45.size
       have s46 : Chg 0 0 w23 w45 := ((d39.t c41).t c45)
       refine wl_nil ?_
       refine dx_next s46 ?_
       refine dx_eff2 5 9 rfl rfl (by kernel_rfl) ?_ ?_
       ·
        have f47 := os_41.ext c45
        refine sx_call rfl rfl Tryz.call19 (c_sExact (f47).toS os2_45.sv (by omega) (fun i hi => Nat.le_trans (hzs (by omega) i hi) (by omega)) (by omega)) (fun v48 w48 p48 => ?_)
        obtain ⟨s48, t48, ls48, us48, lt48, ut48, rfl, os_48, ot_48, hd48, hl48, c48⟩ := p48
        have zw48 := c48.size
        have s49 : Chg 0 0 w23 w48 := (((d39.t c41).t c45).t c48)
        refine wl_nil ?_
        refine dx_next s49 ?_
        refine dx_take 6 rfl rfl rfl rfl (by kernel_rfl) (by kernel_rfl) (by kernel_rfl) s49 (fun _ hS => px_move rfl) ?_
        refine dx_take 7 rfl rfl rfl rfl (by kernel_rfl) (by kernel_rfl) (by kernel_rfl) s49 (fun _ hS => px_extract (vs := [.agg #[.bool ((exct pv ts c1 n1 z1 to).1), s48, t48], .bool ((exct pv ts c1 n1 z1 to).2.2.2)]) rfl rfl) ?_
        refine dx_take 8 rfl rfl rfl rfl (by kernel_rfl) (by kernel_rfl) (by kernel_rfl) s49 (fun _ hS => px_extract (vs := [.agg #[.bool ((exct pv ts c1 n1 z1 to).1), s48, t48], .bool ((exct pv ts c1 n1 z1 to).2.2.2)]) rfl rfl) ?_
        refine dx_eff 9 rfl (by kernel_rfl) ?_
        refine sx_alloc [.bool false, (.slice none 0 0), (.slice none 0 0)] rfl Tryz.zeroValue30 rfl (fun b50 w51 eb50 sb50 fb50 cb50 => ?_)
        have zw51 := cb50.size
        have s52 : Chg 0 0 w23 w51 := ((((d39.t c41).t c45).t c48).t cb50)
        refine wl_nil ?_
        refine dx_next s52 ?_
        refine dx_eff 10 rfl (by kernel_rfl) ?_
        have f54 := ot_48.ext cb50
        have f55 := os_48.ext cb50
        refine sx_store (vs := [.bool ((exct pv ts c1 n1 z1 to).1), s48, t48]) rfl rfl fb50 rfl Tryz.sizeOf30 (Nat.le_of_ble_eq_true rfl) (one_cons rfl (one_cons f55.one (one_cons f54.one one_nil))) (fun w53 sw53 fw53 cw53 => ?_)
        have zw53 := cw53.size
        have gw53 : Blk w53 b50 [.bool ((exct pv ts c1 n1 z1 to).1), s48, t48] 30 := fw53
        have q57 := Chg.step (l := 0) (h := 0) (Chg.zero (l := 0) (h := 0) ((((d39.t c41).t c45).t c48).t cb50)) cw53 (by omega)
        have s56 : Chg 0 0 w23 w53 := q57
        refine wl_nil ?_
        refine dx_next s56 ?_
        refine dx_take 11 rfl rfl rfl rfl (by kernel_rfl) (by kernel_rfl) (by kernel_rfl) s56 (fun _ hS => px_assign rfl) ?_
        refine dx_done (by kernel_rfl) ?_
        have f58 := f55.chg cw53 (by omega)
        have f59 := f54.chg cw53 (by omega)
        have q60 := Chg.step (l := 0) (h := 0) (Chg.zero (l := 0) (h := 0) ((((d39.t c41).t c45).t c48).t cb50)) cw53 (by omega)
        exact q_n (kw_sub (Sub.cons (t := 2) rfl (.cons (t := 3) rfl (.cons (t := 4) rfl (.cons (t := 6) rfl (.cons (t := 8) rfl (.cons (t := 9) rfl (.nil))))))) (kc28 _ _ ⟨b50, s48, ls48, us48, t48, lt48, ut48, rfl, q60, gw53, f58, f59, by omega, by omega, by omega, by omega, by omega, by omega⟩))
       ·
        refine sx_alloc [.bool false, (.slice none 0 0), (.slice none 0 0)] rfl Tryz.zeroValue30 rfl (fun b61 w62 eb61 sb61 fb61 cb61 => ?_)
        have zw62 := cb61.size
        have s63 : Chg 0 0 w23 w62 := (((d39.t c41).t c45).t cb61)
        refine wl_nil ?_
        refine dx_next s63 ?_
        refine dx_eff 5 rfl (by kernel_rfl) ?_
        have f64 := os_41.ext c45
        have f65 := f64.ext cb61
        have f66 := os2_45.ext cb61
        refine sx_call rfl rfl Tryz.call19 (c_sExact (f65).toS f66.sv (by omega) (fun i hi => Nat.le_trans (hzs (by omega) i hi) (by omega)) (by omega)) (fun v67 w67 p67 => ?_)
        obtain ⟨s67, t67, ls67, us67, lt67, ut67, rfl, os_67, ot_67, hd67, hl67, c67⟩ := p67
        have zw67 := c67.size
        have s68 : Chg 0 0 w23 w67 := ((((d39.t c41).t c45).t cb61).t c67)
        refine wl_nil ?_
        refine dx_next s68 ?_
        refine dx_take 6 rfl rfl rfl rfl (by kernel_rfl) (by kernel_rfl) (by kernel_rfl) s68 (fun _ hS => px_move rfl) ?_
        refine dx_take 7 rfl rfl rfl rfl (by kernel_rfl) (by kernel_rfl) (by kernel_rfl) s68 (fun _ hS => px_extract (vs := [.agg #[.bool ((exct pv ts c1 n1 z1 to).1), s67, t67], .bool ((exct pv ts c1 n1 z1 to).2.2.2)]) rfl rfl) ?_
        refine dx_take 8 rfl rfl rfl rfl (by kernel_rfl) (by kernel_rfl) (by kernel_rfl) s68 (fun _ hS => px_extract (vs := [.agg #[.bool ((exct pv ts c1 n1 z1 to).1), s67, t67], .bool ((exct pv ts c1 n1 z1 to).2.2.2)]) rfl rfl) ?_
        refine dx_eff 10 rfl (by kernel_rfl) ?_
        have f70 := fb61.ext c67
        refine sx_store (vs := [.bool ((exct pv ts c1 n1 z1 to).1), s67, t67]) rfl rfl f70 rfl Tryz.sizeOf30 (Nat.le_of_ble_eq_true rfl) (one_cons rfl (one_cons os_67.one (one_cons ot_67.one one_nil))) (fun w69 sw69 fw69 cw69 => ?_)
        have zw69 := cw69.size
        have gw69 : Blk w69 b61 [.bool ((exct pv ts c1 n1 z1 to).1), s67, t67] 30 := fw69
        have q72 := Chg.step (l := 0) (h := 0) (Chg.zero (l := 0) (h := 0) ((((d39.t c41).t c45).t cb61).t c67)) cw69 (by omega)
        have s71 : Chg 0 0 w23 w69 := q72
        refine wl_nil ?_
        refine dx_next s71 ?_
        refine dx_take 11 rfl rfl rfl rfl (by kernel_rfl) (by kernel_rfl) (by kernel_rfl) s71 (fun _ hS => px_assign rfl) ?_
        refine dx_done (by kernel_rfl) ?_
        have f73 := os_67.chg cw69 (by omega)
        have f74 := ot_67.chg cw69 (by omega)
        have q75 := Chg.step (l := 0) (h := 0) (Chg.zero (l := 0) (h := 0) ((((d39.t c41).t c45).t cb61).t c67)) cw69 (by omega)
        exact q_n (kw_sub (Sub.cons (t := 2) rfl (.cons (t := 3) rfl (.cons (t := 4) rfl (.cons (t := 6) rfl (.cons (t := 8) rfl (.cons (t := 9) rfl (.nil))))))) (kc28 _ _ ⟨b61, s67, ls67, us67, t67, lt67, ut67, rfl, q75, gw69, f73, f74, by omega, by omega, by omega, by omega, by omega, by omega⟩))
      ·
       refine sx_alloc [.bool false, (.slice none 0 0), (.slice none 0 0)] rfl Tryz.zeroValue30 rfl (fun b76 w77 eb76 sb76 fb76 cb76 => ?_)
       have zw77 := cb76.size
       have s78 : Chg 0 0 w23 w77 := ((d39.t c41).t cb76)
       refine wl_nil ?_
       refine dx_next s78 ?_
       refine dx_eff 3 rfl (by kernel_rfl) ?_
       have f79 := f38.ext d39
       have f80 := f79.ext c41
       have f81 := f80.ext cb76
       refine sx_call rfl rfl Tryz.call20 (c_toMoney f81 (by omega)) (fun v82 w82 p82 => ?_)
       obtain ⟨s282, rfl, os2_82, c82⟩ := p82
       have zw82 := c82.size
       have s83 : Chg 0 0 w23 w82 := (((d39.t c41).t cb76).t c82)
       refine wl_nil ?_
       refine dx_next s83 ?_
       refine dx_eff 5 rfl (by kernel_rfl) ?_
       have f84 := os_41.ext cb76
       have f85 := f84.ext c82
       refine sx_call rfl rfl Tryz.call19 (c_sExact (f85).toS os2_82.sv (by omega) (fun i hi => Nat.le_trans (hzs (by omega) i hi) (by omega)) (by omega)) (fun v86 w86 p86 => ?_)
       obtain ⟨s86, t86, ls86, us86, lt86, ut86, rfl, os_86, ot_86, hd86, hl86, c86⟩ := p86
       have zw86 := c86.size
       have s87 : Chg 0 0 w23 w86 := ((((d39.t c41).t cb76).t c82).t c86)
       refine wl_nil ?_
       refine dx_next s87 ?_
       refine dx_take 6 rfl rfl rfl rfl (by kernel_rfl) (by kernel_rfl) (by kernel_rfl) s87 (fun _ hS => px_move rfl) ?_
       refine dx_take 7 rfl rfl rfl rfl (by kernel_rfl) (by kernel_rfl) (by kernel_rfl) s87 (fun _ hS => px_extract (vs := [.agg #[.bool ((exct pv ts c1 n1 z1 to).1), s86, t86], .bool ((exct pv ts c1 n1 z1 to).2.2.2)]) rfl rfl) ?_
       refine dx_take 8 rfl rfl rfl rfl (by kernel_rfl) (by kernel_rfl) (by kernel_rfl) s87 (fun _ hS => px_extract (vs := [.agg #[.bool ((exct pv ts c1 n1 z1 to).1), s86, t86], .bool ((exct pv ts c1 n1 z1 to).2.2.2)]) rfl rfl) ?_
       refine dx_eff 10 rfl (by kernel_rfl) ?_
       have f89 := fb76.ext c82
       have f90 := f89.ext c86
       refine sx_store (vs := [.bool ((exct pv ts c1 n1 z1 to).1), s86, t86]) rfl rfl f90 rfl Tryz.sizeOf30 (Nat.le_of_ble_eq_true rfl) (one_cons rfl (one_cons os_86.one (one_cons ot_86.one one_nil))) (fun w88 sw88 fw88 cw88 => ?_)
       have zw88 := cw88.size
       have gw88 : Blk w88 b76 [.bool ((exct pv ts c1 n1 z1 to).1), s86, t86] 30 := fw88
       have q92 := Chg.step (l := 0) (h := 0) (Chg.zero (l := 0) (h := 0) ((((d39.t c41).t cb76).t c82).t c86)) cw88 (by omega)
       have s91 : Chg 0 0 w23 w88 := q92
       refine wl_nil ?_
       refine dx_next s91 ?_
       refine dx_take 11 rfl rfl rfl rfl (by kernel_rfl) (by kernel_rfl) (by kernel_rfl) s91 (fun _ hS => px_assign rfl) ?_
       refine dx_done (by kernel_rfl) ?_
       have f93 := os_86.chg cw88 (by omega)
       have f94 := ot_86.chg cw88 (by omega)
       have q95 := Chg.step (l := 0) (h := 0) (Chg.zero (l := 0) (h := 0) ((((d39.t c41).t cb76).t c82).t c86)) cw88 (by omega)
       exact q_n (kw_sub (Sub.cons (t := 2) rfl (.cons (t := 3) rfl (.cons (t := 4) rfl (.cons (t := 6) rfl (.cons (t := 8) rfl (.cons (t := 9) rfl (.nil))))))) (kc28 _ _ ⟨b76, s86, ls86, us86, t86, lt86, ut86, rfl, q95, gw88, f93, f94, by omega, by omega, by omega, by omega, by omega, by omega⟩))
     ·
      refine sx_alloc [.bool false, (.slice none 0 0), (.slice none 0 0)] rfl Tryz.zeroValue30 rfl (fun b96 w97 eb96 sb96 fb96 cb96 => ?_)
      have zw97 := cb96.size
      have s98 : Chg 0 0 w23 w97 := (d39.t cb96)
      refine wl_nil ?_
      refine dx_next s98 ?_
      refine dx_eff 1 rfl (by kernel_rfl) ?_
      have f99 := f37.ext d39
      have f100 := f99.ext cb96
      refine sx_call rfl rfl Tryz.call9 (c_toRates f100 (by omega) (hzs (by omega))) (fun v101 w101 p101 => ?_)
      obtain ⟨s101, us101, rfl, os_101, c101⟩ := p101
      have zw101 := c101.size
      have s102 : Chg 0 0 w23 w101 := ((d39.t cb96).t c101)
      refine wl_nil ?_
      refine dx_next s102 ?_
      refine dx_eff 3 rfl (by kernel_rfl) ?_
      have f103 := f38.ext d39
      have f104 := f103.ext cb96
      have f105 := f104.ext c101
      refine sx_call rfl rfl Tryz.call20 (c_toMoney f105 (by omega)) (fun v106 w106 p106 => ?_)
      obtain ⟨s2106, rfl, os2_106, c106⟩ := p106
      have zw106 := c106.size
      have s107 : Chg 0 0 w23 w106 := (((d39.t cb96).t c101).t c106)
      refine wl_nil ?_
      refine dx_next s107 ?_
      refine dx_eff 5 rfl (by kernel_rfl) ?_
      have f108 := os_101.ext c106
      refine sx_call rfl rfl Tryz.call19 (c_sExact (f108).toS os2_106.sv (by omega) (fun i hi => Nat.le_trans (hzs (by omega) i hi) (by omega)) (by omega)) (fun v109 w109 p109 => ?_)
      obtain ⟨s109, t109, ls109, us109, lt109, ut109, rfl, os_109, ot_109, hd109, hl109, c109⟩ := p109
      have zw109 := c109.size
      have s110 : Chg 0 0 w23 w109 := ((((d39.t cb96).t c101).t c106).t c109)
      refine wl_nil ?_
      refine dx_next s110 ?_
      refine dx_take 6 rfl rfl rfl rfl (by kernel_rfl) (by kernel_rfl) (by kernel_rfl) s110 (fun _ hS => px_move rfl) ?_
      refine dx_take 7 rfl rfl rfl rfl (by kernel_rfl) (by kernel_rfl) (by kernel_rfl) s110 (fun _ hS => px_extract (vs := [.agg #[.bool ((exct pv ts c1 n1 z1 to).1), s109, t109], .bool ((exct pv ts c1 n1 z1 to).2.2.2)]) rfl rfl) ?_
      refine dx_take 8 rfl rfl rfl rfl (by kernel_rfl) (by kernel_rfl) (by kernel_rfl) s110 (fun _ hS => px_extract (vs := [.agg #[.bool ((exct pv ts c1 n1 z1 to).1), s109, t109], .bool ((exct pv ts c1 n1 z1 to).2.2.2)]) rfl rfl) ?_
      refine dx_eff 10 rfl (by kernel_rfl) ?_
      have f112 := fb96.ext c101
      have f113 := f112.ext c106
      have f114 := f113.ext c109
      refine sx_store (vs := [.bool ((exct pv ts c1 n1 z1 to).1), s109, t109]) rfl rfl f114 rfl Tryz.sizeOf30 (Nat.le_of_ble_eq_true rfl) (one_cons rfl (one_cons os_109.one (one_cons ot_109.one one_nil))) (fun w111 sw111 fw111 cw111 => ?_)
      have zw111 := cw111.size
      have gw111 : Blk w111 b96 [.bool ((exct pv ts c1 n1 z1 to).1), s109, t109] 30 := fw111
      have q116 := Chg.step (l := 0) (h := 0) (Chg.zero (l := 0) (h := 0) ((((d39.t cb96).t c101).t c106).t c109)) cw111 (by omega)
      have s115 : Chg 0 0 w23 w111 := q116
      refine wl_nil ?_
      refine dx_next s115 ?_
      refine dx_take 11 rfl rfl rfl rfl (by kernel_rfl) (by kernel_rfl) (by kernel_rfl) s115 (fun _ hS => px_assign rfl) ?_
      refine dx_done (by kernel_rfl) ?_
      have f117 := os_109.chg cw111 (by omega)
      have f118 := ot_109.chg cw111 (by omega)
      have q119 := Chg.step (l := 0) (h := 0) (Chg.zero (l := 0) (h := 0) ((((d39.t cb96).t c101).t c106).t c109)) cw111 (by omega)
      exact q_n (kw_sub (Sub.cons (t := 2) rfl (.cons (t := 3) rfl (.cons (t := 4) rfl (.cons (t := 6) rfl (.cons (t := 8) rfl (.cons (t := 9) rfl (.nil))))))) (kc28 _ _ ⟨b96, s109, ls109, us109, t109, lt109, ut109, rfl, q119, gw111, f117, f118, by omega, by omega, by omega, by omega, by omega, by omega⟩))
    ·
     rintro fr w'28 ⟨gb28x0, gs28x1, gl28x1, gu28x1, gs28x2, gl28x2, gu28x2, rfl, cw'28, xgb28x0, xgs28x1, xgs28x2, ygb28x0, ygl28x1, ygl28x2, dgl28x1xgb28x0, dgl28x2xgb28x0, dgl28x2xgl28x1⟩
     have zw'28 := cw'28.size
     refine sx_seq fun K120 k120 => sx_region ?_
     have f121 := f11.ext c14
     have f122 := f121.ext c23
     have f123 := f122.ext cw'28
     refine sx_pure rfl rfl rfl (px_load rfl (f123.loadA (vs := [.string pv, vt]) (look_lit rfl) Tryz.isAgg24 Tryz.sizeOf24)) ?_
     have f124 := f13.ext c14
     have f125 := f124.ext c23
     have f126 := f125.ext cw'28
     refine sx_call rfl rfl Tryz.call9 (c_toRates f126 (by omega) (hzs (by omega))) (fun v127 w127 p127 => ?_)
     obtain ⟨s127, us127, rfl, os_127, c127⟩ := p127
     have zw127 := c127.size
     refine sx_alloc [.string (⟨#[]⟩), (.slice none 0 0)] rfl Tryz.zeroValue35 rfl (fun b128 w129 eb128 sb128 fb128 cb128 => ?_)
     have zw129 := cb128.size
     have f131 := os_127.ext cb128
     refine sx_store (vs := [.string pv, s127]) rfl rfl fb128 rfl Tryz.sizeOf35 (Nat.le_of_ble_eq_true rfl) (one_cons rfl (one_cons (f131).toS.one one_nil)) (fun w130 sw130 fw130 cw130 => ?_)
     have zw130 := cw130.size
     have gw130 : Blk w130 b128 [.string pv, s127] 35 := fw130
     refine wl_nil (q_n (k120 _ _ ?_))
     refine sx_seq fun K132 k132 => sx_region ?_
     have f133 := f19.ext c23
     have f134 := f133.ext cw'28
     have f135 := f134.ext c127
     have f136 := f135.ext cb128
     have f137 := f136.chg cw130 (by omega)
     refine sx_pure rfl rfl rfl (px_load rfl (f137.loadA (vs := [.string c1, .bool n1, v1]) (look_lit rfl) Tryz.isAgg44 Tryz.sizeOf44)) ?_
     have f138 := f22.ext c23
     have f139 := f138.ext cw'28
     have f140 := f139.ext c127
     have f141 := f140.ext cb128
     have f142 := f141.chg cw130 (by omega)
     refine sx_call rfl rfl Tryz.call20 (c_toMoney f142 (by omega)) (fun v143 w143 p143 => ?_)
     obtain ⟨s2143, rfl, os2_143, c143⟩ := p143
     have zw143 := c143.size
     refine sx_alloc [.string (⟨#[]⟩), .bool false, (.slice none 0 0)] rfl Tryz.zeroValue48 rfl (fun b144 w145 eb144 sb144 fb144 cb144 => ?_)
     have zw145 := cb144.size
     have f147 := os2_143.ext cb144
     refine sx_store (vs := [.string c1, .bool n1, s2143]) rfl rfl fb144 rfl Tryz.sizeOf48 (Nat.le_of_ble_eq_true rfl) (one_cons rfl (one_cons rfl (one_cons f147.one one_nil))) (fun w146 sw146 fw146 cw146 => ?_)
     have zw146 := cw146.size
     have gw146 : Blk w146 b144 [.string c1, .bool n1, s2143] 48 := fw146
     refine wl_nil (q_n (k132 _ _ ?_))
     refine sx_seq fun K148 k148 => sx_region ?_
     have f149 := gw130.ext c143
     have f150 := f149.ext cb144
     have f151 := f150.chg cw146 (by omega)
     refine sx_pure rfl rfl rfl (px_load rfl (f151.loadA (vs := [.string pv, s127]) (look_lit rfl) Tryz.isAgg35 Tryz.sizeOf35)) ?_
     refine sx_pure rfl rfl rfl (px_load rfl (gw146.loadA (vs := [.string c1, .bool n1, s2143]) (look_lit rfl) Tryz.isAgg48 Tryz.sizeOf48)) ?_
     refine sm rfl rfl rfl rfl ?_
     have f152 := hG0.ext cb2
     have f153 := f152.ext cb4
     have f154 := f153.ext c14
     have f155 := f154.ext c23
     have f156 := f155.ext cw'28
     have f157 := f156.ext c127
     have f158 := f157.ext cb128
     have f159 := f158.chg cw130 (by omega)
     have f160 := f159.ext c143
     have f161 := f160.ext cb144
     have f162 := f161.chg cw146 (by omega)
     have f163 := f131.chg cw130 (by omega)
     have f164 := f163.ext c143
     have f165 := f164.ext cb144
     have f166 := f165.chg cw146 (by omega)
     have f167 := f147.chg cw146 (by omega)
     refine sx_call rfl rfl Tryz.call21 (c_iExact f162 (f166).toS f167.sv (by omega) (fun i hi => Nat.le_trans (hzs (by omega) i hi) (by omega)) (by omega)) (fun v168 w168 p168 => ?_)
     obtain ⟨s168, t168, ls168, us168, lt168, ut168, rfl, os_168, ot_168, hd168, hl168, c168⟩ := p168
     have zw168 := c168.size
     refine sm rfl rfl rfl rfl ?_
     refine sx_pure rfl rfl rfl (px_extract (vs := [.agg #[.bool ((exct pv ts c1 n1 z1 to).1), s168, t168], .bool ((exct pv ts c1 n1 z1 to).2.2.2)]) rfl rfl) ?_
     refine sx_pure rfl rfl rfl (px_extract (vs := [.agg #[.bool ((exct pv ts c1 n1 z1 to).1), s168, t168], .bool ((exct pv ts c1 n1 z1 to).2.2.2)]) rfl rfl) ?_
     refine sx_alloc [.bool false, (.slice none 0 0), (.slice none 0 0)] rfl Tryz.zeroValue30 rfl (fun b169 w170 eb169 sb169 fb169 cb169 => ?_)
     have zw170 := cb169.size
     have f172 := ot_168.ext cb169
     have f173 := os_168.ext cb169
     refine sx_store (vs := [.bool ((exct pv ts c1 n1 z1 to).1), s168, t168]) rfl rfl fb169 rfl Tryz.sizeOf30 (Nat.le_of_ble_eq_true rfl) (one_cons rfl (one_cons f173.one (one_cons f172.one one_nil))) (fun w171 sw171 fw171 cw171 => ?_)
     have zw171 := cw171.size
     have gw171 : Blk w171 b169 [.bool ((exct pv ts c1 n1 z1 to).1), s168, t168] 30 := fw171
     refine sa rfl rfl rfl rfl ?_
     refine wl_nil (q_n (k148 _ _ ?_))
     refine sx_sub (Sub.cons (t := 2) rfl (.cons (t := 3) rfl (.cons (t := 4) rfl (.cons (t := 6) rfl (.cons (t := 8) rfl (.cons (t := 9) rfl (.cons (t := 10) rfl (.cons (t := 11) rfl (.cons (t := 12) rfl (.cons (t := 13) rfl (.nil))))))))))) ?_
     refine sx_seq fun K174 k174 => ?_
     refine sx_seq fun K175 k175 => sx_region ?_
     refine sx_pure rfl rfl rfl (px_load rfl (gw171.loadA (vs := [.bool ((exct pv ts c1 n1 z1 to).1), s168, t168]) (look_lit rfl) Tryz.isAgg30 Tryz.sizeOf30)) ?_
     have f176 := xgb28x0.ext c127
     have f177 := f176.ext cb128
     have f178 := f177.chg cw130 (by omega)
     have f179 := f178.ext c143
     have f180 := f179.ext cb144
     have f181 := f180.chg cw146 (by omega)
     have f182 := f181.ext c168
     have f183 := f182.ext cb169
     have f184 := f183.chg cw171 (by omega)
     refine sx_pure rfl rfl rfl (px_load rfl (f184.loadA (vs := [.bool ((exct pv ts c1 n1 z1 to).1), gs28x1, gs28x2]) (look_lit rfl) Tryz.isAgg30 Tryz.sizeOf30)) ?_
     have f185 := f173.chg cw171 (by omega)
     have f186 := f172.chg cw171 (by omega)
     have f187 := xgs28x1.ext c127
     have f188 := f187.ext cb128
     have f189 := f188.chg cw130 (by omega)
     have f190 := f189.ext c143
     have f191 := f190.ext cb144
     have f192 := f191.chg cw146 (by omega)
     have f193 := f192.ext c168
     have f194 := f193.ext cb169
     have f195 := f194.chg cw171 (by omega)
     have f196 := xgs28x2.ext c127
     have f197 := f196.ext cb128
     have f198 := f197.chg cw130 (by omega)
     have f199 := f198.ext c143
     have f200 := f199.ext cb144
     have f201 := f200.chg cw146 (by omega)
     have f202 := f201.ext c168
     have f203 := f202.ext cb169
     have f204 := f203.chg cw171 (by omega)
     refine sx_call rfl rfl Tryz.call11 (c_eqRat f185.sv f186.sv f195.sv f204.sv (by omega)) (fun v205 w205 p205 => ?_)
     obtain ⟨rfl, c205⟩ := p205
     have zw205 := c205.size
     refine sx_pure rfl rfl rfl (px_notP rfl) ?_
     refine sm rfl rfl rfl rfl ?_
     have h5740 : ¬ (¬ (((exct pv ts c1 n1 z1 to).1) = ((exct pv ts c1 n1 z1 to).1) ∧ ((exct pv ts c1 n1 z1 to).2.1) = ((exct pv ts c1 n1 z1 to).2.1) ∧ ((exct pv ts c1 n1 z1 to).2.2.1) = ((exct pv ts c1 n1 z1 to).2.2.1))) := by simp [mk_length]
     refine sx_tmpPF (t := 56) rfl h5740 ?_
     refine sx_guardT rfl rfl rfl ?_
     refine sm rfl rfl rfl rfl ?_
     refine sx_guardT rfl rfl rfl ?_
     refine sm rfl rfl rfl rfl ?_
     refine sx_guardT rfl rfl rfl ?_
     refine sx_pure rfl rfl rfl (px_neB Tryz.underlying4 rfl rfl) ?_
     refine sx_pure rfl rfl rfl (px_pick rfl rfl) ?_
     refine wl_nil (q_n (k175 _ _ ?_))
     refine sx_sub (Sub.cons (t := 2) rfl (.cons (t := 3) rfl (.cons (t := 4) rfl (.cons (t := 6) rfl (.cons (t := 8) rfl (.cons (t := 9) rfl (.cons (t := 10) rfl (.cons (t := 11) rfl (.cons (t := 12) rfl (.cons (t := 13) rfl (.cons (t := 60) rfl (.nil)))))))))))) ?_
     have h5740x1 : (((exct pv ts c1 n1 z1 to).2.2.2) != ((exct pv ts c1 n1 z1 to).2.2.2)) = false := by simp [mk_length]
     refine sx_condBF rfl h5740x1 ?_
     refine sx_skip ?_
     refine q_n (k174 _ _ ?_)
     refine sx_seq fun K206 k206 => ?_
     refine sx_seq fun K207 k207 => ?_
     have f208 := f162.ext c168
     have f209 := f208.ext cb169
     have f210 := f209.chg cw171 (by omega)
     have f211 := f210.ext c205
     have f212 := f123.ext c127
     have f213 := f212.ext cb128
     have f214 := f213.chg cw130 (by omega)
     have f215 := f214.ext c143
     have f216 := f215.ext cb144
     have f217 := f216.chg cw146 (by omega)
     have f218 := f217.ext c168
     have f219 := f218.ext cb169
     have f220 := f219.chg cw171 (by omega)
     have f221 := f220.ext c205
     have f222 := f137.ext c143
     have f223 := f222.ext cb144
     have f224 := f223.chg cw146 (by omega)
     have f225 := f224.ext c168
     have f226 := f225.ext cb169
     have f227 := f226.chg cw171 (by omega)
     have f228 := f227.ext c205
     have f229 := f184.ext c205
     have f230 := f151.ext c168
     have f231 := f230.ext cb169
     have f232 := f231.chg cw171 (by omega)
     have f233 := f232.ext c205
     have f234 := gw146.ext c168
     have f235 := f234.ext cb169
     have f236 := f235.chg cw171 (by omega)
     have f237 := f236.ext c205
     have f238 := gw171.ext c205
     have f239 := f126.ext c127
     have f240 := f239.ext cb128
     have f241 := f240.chg cw130 (by omega)
     have f242 := f241.ext c143
     have f243 := f242.ext cb144
     have f244 := f243.chg cw146 (by omega)
     have f245 := f244.ext c168
     have f246 := f245.ext cb169
     have f247 := f246.chg cw171 (by omega)
     have f248 := f247.ext c205
     have f249 := f142.ext c143
     have f250 := f249.ext cb144
     have f251 := f250.chg cw146 (by omega)
     have f252 := f251.ext c168
     have f253 := f252.ext cb169
     have f254 := f253.chg cw171 (by omega)
     have f255 := f254.ext c205
     have f256 := f195.ext c205
     have f257 := f204.ext c205
     have f258 := f166.ext c168
     have f259 := f258.ext cb169
     have f260 := f259.chg cw171 (by omega)
     have f261 := f260.ext c205
     have f262 := f167.ext c168
     have f263 := f262.ext cb169
     have f264 := f263.chg cw171 (by omega)
     have f265 := f264.ext c205
     have f266 := f185.ext c205
     have f267 := f186.ext c205
     refine dx_region (fun w' => Chg 0 0 w205 w') (by kernel_rfl) (Chg.zero (Chg.drew _)) ?_
     have d268 := Chg.drew w205
     have s268 : Chg 0 0 w205 (World.drew w205) := Chg.zero (Chg.drew _)
     have y268 : (World.drew w205).heap.size = w205.heap.size := rfl
     generalize World.drew w205 = w268 at *
     have zw268 := d268.size
     refine dx_take 0 rfl rfl rfl rfl (by kernel_rfl) (by kernel_rfl) (by kernel_rfl) s268 (fun _ hS => px_load rfl ((f233.chg hS (by omega)).loadA (vs := [.string pv, s127]) (look_lit rfl) Tryz.isAgg35 Tryz.sizeOf35)) ?_
     refine dx_take 1 rfl rfl rfl rfl (by kernel_rfl) (by kernel_rfl) (by kernel_rfl) s268 (fun _ hS => px_load rfl ((f221.chg hS (by omega)).loadA (vs := [.string pv, vt]) (look_lit rfl) Tryz.isAgg24 Tryz.sizeOf24)) ?_
     refine dx_eff 2 rfl (by kernel_rfl) ?_
     have f269 := f248.ext d268
     refine sx_call rfl rfl Tryz.call9 (c_toRates f269 (by omega) (hzs (by omega))) (fun v270 w270 p270 => ?_)
     obtain ⟨s270, us270, rfl, os_270, c270⟩ := p270
     have zw270 := c270.size
     have s271 : Chg 0 0 w205 w270 := (d268.t c270)
     refine wl_nil ?_
     refine dx_next s271 ?_
     refine dx_eff 3 rfl (by kernel_rfl) ?_
     have f272 := f261.ext d268
     have f273 := f272.ext c270
     refine sx_call rfl rfl Tryz.call12 (c_eqRates (f273).toS (os_270).toS (by omega) (hzs (by omega)) (hzs (by omega))) (fun v274 w274 p274 => ?_)
     obtain ⟨rfl, c274⟩ := p274
     have zw274 := c274.size
     have s275 : Chg 0 0 w205 w274 := ((d268.t c270).t c274)
     refine wl_nil ?_
     refine dx_next s275 ?_
     refine dx_take 4 rfl rfl rfl rfl (by kernel_rfl) (by kernel_rfl) (by kernel_rfl) s275 (fun _ hS => px_notP rfl) ?_
     refine dx_done (by kernel_rfl) ?_
     refine q_n (k207 _ _ ?_)
     refine sx_sub (Sub.cons (t := 2) rfl (.cons (t := 3) rfl (.cons (t := 4) rfl (.cons (t := 6) rfl (.cons (t := 8) rfl (.cons (t := 9) rfl (.cons (t := 10) rfl (.cons (t := 11) rfl (.cons (t := 12) rfl (.cons (t := 13) rfl (.cons (t := 65) rfl (.nil)))))))))))) ?_
     have h5743 : ¬ (¬ (pv = pv ∧ ts = ts)) := by simp [mk_length]
     refine sx_condPF rfl h5743 ?_
     refine sx_skip ?_
     refine q_n (k206 _ _ ?_)
     refine sx_seq fun K276 k276 => ?_
     refine sx_seq fun K277 k277 => ?_
     have f278 := f211.ext d268
     have f279 := f278.ext c270
     have f280 := f279.ext c274
     have f281 := f221.ext d268
     have f282 := f281.ext c270
     have f283 := f282.ext c274
     have f284 := f228.ext d268
     have f285 := f284.ext c270
     have f286 := f285.ext c274
     have f287 := f229.ext d268
     have f288 := f287.ext c270
     have f289 := f288.ext c274
     have f290 := f233.ext d268
     have f291 := f290.ext c270
     have f292 := f291.ext c274
     have f293 := f237.ext d268
     have f294 := f293.ext c270
     have f295 := f294.ext c274
     have f296 := f238.ext d268
     have f297 := f296.ext c270
     have f298 := f297.ext c274
     have f299 := f269.ext c270
     have f300 := f299.ext c274
     have f301 := f255.ext d268
     have f302 := f301.ext c270
     have f303 := f302.ext c274
     have f304 := f256.ext d268
     have f305 := f304.ext c270
     have f306 := f305.ext c274
     have f307 := f257.ext d268
     have f308 := f307.ext c270
     have f309 := f308.ext c274
     have f310 := f273.ext c274
     have f311 := f265.ext d268
     have f312 := f311.ext c270
     have f313 := f312.ext c274
     have f314 := f266.ext d268
     have f315 := f314.ext c270
     have f316 := f315.ext c274
     have f317 := f267.ext d268
     have f318 := f317.ext c270
     have f319 := f318.ext c274
     have f320 := os_270.ext c274
     refine dx_region (fun w' => Chg 0 0 w274 w') (by kernel_rfl) (Chg.zero (Chg.drew _)) ?_
     have d321 := Chg.drew w274
     have s321 : Chg 0 0 w274 (World.drew w274) := Chg.zero (Chg.drew _)
     have y321 : (World.drew w274).heap.size = w274.heap.size := rfl
     generalize World.drew w274 = w321 at *
     have zw321 := d321.size
     refine dx_take 0 rfl rfl rfl rfl (by kernel_rfl) (by kernel_rfl) (by kernel_rfl) s321 (fun _ hS => px_load rfl ((f295.chg hS (by omega)).loadA (vs := [.string c1, .bool n1, s2143]) (look_lit rfl) Tryz.isAgg48 Tryz.sizeOf48)) ?_
     refine dx_take 1 rfl rfl rfl rfl (by kernel_rfl) (by kernel_rfl) (by kernel_rfl) s321 (fun _ hS => px_load rfl ((f286.chg hS (by omega)).loadA (vs := [.string c1, .bool n1, v1]) (look_lit rfl) Tryz.isAgg44 Tryz.sizeOf44)) ?_
     refine dx_eff 2 rfl (by kernel_rfl) ?_
     have f322 := f303.ext d321
     refine sx_call rfl rfl Tryz.call20 (c_toMoney f322 (by omega)) (fun v323 w323 p323 => ?_)
     obtain ⟨s2323, rfl, os2_323, c323⟩ := p323
     have zw323 := c323.size
     have s324 : Chg 0 0 w274 w323 := (d321.t c323)
     refine wl_nil ?_
     refine dx_next s324 ?_
     refine dx_eff 3 rfl (by kernel_rfl) ?_
     have f325 := f313.ext d321
     have f326 := f325.ext c323
     refine sx_call rfl rfl Tryz.call22 (c_eqMoney f326.sv os2_323.sv (by omega)) (fun v327 w327 p327 => ?_)
     obtain ⟨rfl, c327⟩ := p327
     have zw327 := c327.size
     have s328 : Chg 0 0 w274 w327 := ((d321.t c323).t c327)
     refine wl_nil ?_
     refine dx_next s328 ?_
     refine dx_take 4 rfl rfl rfl rfl (by kernel_rfl) (by kernel_rfl) (by kernel_rfl) s328 (fun _ hS => px_notP rfl) ?_
     refine dx_done (by kernel_rfl) ?_
     refine q_n (k277 _ _ ?_)
     refine sx_sub (Sub.cons (t := 2) rfl (.cons (t := 3) rfl (.cons (t := 4) rfl (.cons (t := 6) rfl (.cons (t := 8) rfl (.cons (t := 9) rfl (.cons (t := 10) rfl (.cons (t := 11) rfl (.cons (t := 12) rfl (.cons (t := 13) rfl (.cons (t := 70) rfl (.nil)))))))))))) ?_
     have h5746 : ¬ (¬ (c1 = c1 ∧ n1 = n1 ∧ z1 = z1)) := by simp [mk_length]
     refine sx_condPF rfl h5746 ?_
     refine sx_skip ?_
     refine q_n (k276 _ _ ?_)
     refine sx_seq fun K329 k329 => sx_region ?_
     refine sa rfl rfl rfl rfl ?_
     refine wl_nil (q_n (k329 _ _ ?_))
     refine sx_seq fun K330 k330 => sx_region ?_
     have f331 := f292.ext d321
     have f332 := f331.ext c323
     have f333 := f332.ext c327
     refine sx_pure rfl rfl rfl (px_load rfl (f333.loadA (vs := [.string pv, s127]) (look_lit rfl) Tryz.isAgg35 Tryz.sizeOf35)) ?_
     refine sm rfl rfl rfl rfl ?_
     have f334 := f310.ext d321
     have f335 := f334.ext c323
     have f336 := f335.ext c327
     refine sx_call rfl rfl Tryz.call13 (c_markRates f336 (by omega) (hzs (by omega)) (by omega) (by omega)) (fun v337 w337 p337 => ?_)
     obtain ⟨ks337, rfl, hk337, c337⟩ := p337
     have zw337 := c337.size
     refine sa rfl rfl rfl rfl ?_
     refine wl_nil (q_n (k330 _ _ ?_))
     refine sx_sub (Sub.cons (t := 2) rfl (.cons (t := 3) rfl (.cons (t := 4) rfl (.cons (t := 6) rfl (.cons (t := 8) rfl (.cons (t := 9) rfl (.cons (t := 11) rfl (.cons (t := 12) rfl (.cons (t := 13) rfl (.cons (t := 14) rfl (.nil))))))))))) ?_
     refine sx_seq fun K338 k338 => sx_region ?_
     have f339 := f295.ext d321
     have f340 := f339.ext c323
     have f341 := f340.ext c327
     have f342 := f341.chg c337 (by omega)
     refine sx_pure rfl rfl rfl (px_load rfl (f342.loadA (vs := [.string c1, .bool n1, s2143]) (look_lit rfl) Tryz.isAgg48 Tryz.sizeOf48)) ?_
     refine sm rfl rfl rfl rfl ?_
     have f343 := f326.ext c327
     have f344 := f343.chg c337 (by omega)
     refine sx_call rfl rfl Tryz.call23 (c_markMoney f344 (by omega) (by omega)) (fun v345 w345 p345 => ?_)
     obtain ⟨rfl, ov1_345, c345⟩ := p345
     have zw345 := c345.size
     refine sa rfl rfl rfl rfl ?_
     refine wl_nil (q_n (k338 _ _ ?_))
     refine sx_seq fun K346 k346 => ?_
     refine sx_seq fun K347 k347 => sx_region ?_
     refine sm rfl rfl rfl rfl ?_
     refine sx_pure rfl rfl rfl (px_lt rfl rfl) ?_
     refine sm rfl rfl rfl rfl ?_
     have h5752 : ¬ ((((1 : Int) + ↑((ks337 : List Int)).length) + ↑(z1).length : Int) < 0) := by omega
     refine sx_tmpPF (t := 79) rfl h5752 ?_
     refine sx_guardT rfl rfl rfl ?_
     have f348 := f298.ext d321
     have f349 := f348.ext c323
     have f350 := f349.ext c327
     have f351 := f350.chg c337 (by omega)
     have f352 := f351.chg c345 (by omega)
     refine sx_pure rfl rfl rfl (px_load rfl (f352.loadA (vs := [.bool ((exct pv ts c1 n1 z1 to).1), s168, t168]) (look_lit rfl) Tryz.isAgg30 Tryz.sizeOf30)) ?_
     refine sx_guardT rfl rfl rfl ?_
     have f353 := f289.ext d321
     have f354 := f353.ext c323
     have f355 := f354.ext c327
     have f356 := f355.chg c337 (by omega)
     have f357 := f356.chg c345 (by omega)
     refine sx_pure rfl rfl rfl (px_load rfl (f357.loadA (vs := [.bool ((exct pv ts c1 n1 z1 to).1), gs28x1, gs28x2]) (look_lit rfl) Tryz.isAgg30 Tryz.sizeOf30)) ?_
     refine sx_guardT rfl rfl rfl ?_
     have f358 := f316.ext d321
     have f359 := f358.ext c323
     have f360 := f359.ext c327
     have f361 := f360.chg c337 (by omega)
     have f362 := f361.chg c345 (by omega)
     have f363 := f319.ext d321
     have f364 := f363.ext c323
     have f365 := f364.ext c327
     have f366 := f365.chg c337 (by omega)
     have f367 := f366.chg c345 (by omega)
     have f368 := f306.ext d321
     have f369 := f368.ext c323
     have f370 := f369.ext c327
     have f371 := f370.chg c337 (by omega)
     have f372 := f371.chg c345 (by omega)
     have f373 := f309.ext d321
     have f374 := f373.ext c323
     have f375 := f374.ext c327
     have f376 := f375.chg c337 (by omega)
     have f377 := f376.chg c345 (by omega)
     refine sx_call rfl rfl Tryz.call11 (c_eqRat f362.sv f367.sv f372.sv f377.sv (by omega)) (fun v378 w378 p378 => ?_)
     obtain ⟨rfl, c378⟩ := p378
     have zw378 := c378.size
     refine sx_guardT rfl rfl rfl ?_
     refine sx_pure rfl rfl rfl (px_notP rfl) ?_
     refine sx_pure rfl rfl rfl (px_pick rfl rfl) ?_
     refine sm rfl rfl rfl rfl ?_
     have h5752x1 : ¬ (¬ (((exct pv ts c1 n1 z1 to).1) = ((exct pv ts c1 n1 z1 to).1) ∧ ((exct pv ts c1 n1 z1 to).2.1) = ((exct pv ts c1 n1 z1 to).2.1) ∧ ((exct pv ts c1 n1 z1 to).2.2.1) = ((exct pv ts c1 n1 z1 to).2.2.1))) := by simp [mk_length]
     refine sx_tmpPF (t := 85) rfl h5752x1 ?_
     refine sx_guardT rfl rfl rfl ?_
     refine sm rfl rfl rfl rfl ?_
     refine sx_guardT rfl rfl rfl ?_
     refine sm rfl rfl rfl rfl ?_
     refine sx_guardT rfl rfl rfl ?_
     refine sx_pure rfl rfl rfl (px_neB Tryz.underlying4 rfl rfl) ?_
     refine sx_pure rfl rfl rfl (px_pick rfl rfl) ?_
     refine wl_nil (q_n (k347 _ _ ?_))
     refine sx_sub (Sub.cons (t := 2) rfl (.cons (t := 3) rfl (.cons (t := 4) rfl (.cons (t := 6) rfl (.cons (t := 8) rfl (.cons (t := 9) rfl (.cons (t := 12) rfl (.cons (t := 89) rfl (.nil))))))))) ?_
     have h5752x2 : (((exct pv ts c1 n1 z1 to).2.2.2) != ((exct pv ts c1 n1 z1 to).2.2.2)) = false := by simp [mk_length]
     refine sx_condBF rfl h5752x2 ?_
     refine sx_skip ?_
     refine q_n (k346 _ _ ?_)
     refine sx_seq fun K379 k379 => sx_region ?_
     refine sa rfl rfl rfl rfl ?_
     refine wl_nil (q_n (k379 _ _ ?_))
     refine sx_seq fun K380 k380 => sx_region ?_
     have f381 := f352.ext c378
     refine sx_pure rfl rfl rfl (px_load rfl (f381.loadA (vs := [.bool ((exct pv ts c1 n1 z1 to).1), s168, t168]) (look_lit rfl) Tryz.isAgg30 Tryz.sizeOf30)) ?_
     refine sm rfl rfl rfl rfl ?_
     have f382 := f362.ext c378
     have f383 := f367.ext c378
     refine sx_call rfl rfl Tryz.call14 (c_markRat f382 f383 (by omega) (by first | omega | (simp only [mk_length]; omega)) (by omega)) (fun v384 w384 p384 => ?_)
     obtain ⟨rfl, ov1_384, od1_384, c384⟩ := p384
     have zw384 := c384.size
     refine sa rfl rfl rfl rfl ?_
     refine wl_nil (q_n (k380 _ _ ?_))
     refine sx_seq fun K385 k385 => sx_region ?_
     refine sa rfl rfl rfl rfl ?_
     refine wl_nil (q_n (k385 _ _ ?_))
     refine sx_seq fun K386 k386 => sx_region ?_
     have f387 := f381.chg c384 (by omega)
     refine sx_pure rfl rfl rfl (px_load rfl (f387.loadA (vs := [.bool ((exct pv ts c1 n1 z1 to).1), s168, t168]) (look_lit rfl) Tryz.isAgg30 Tryz.sizeOf30)) ?_
     refine sm rfl rfl rfl rfl ?_
     refine sx_call rfl rfl Tryz.call15 (c_heldRat ov1_384.sv od1_384.sv (by first | omega | (simp only [mk_length]; omega)) (by first | omega | (simp only [mk_length]; omega)) (by simp [mk_length])) (fun v388 w388 p388 => ?_)
     obtain ⟨rfl, c388⟩ := p388
     have zw388 := c388.size
     refine sa rfl rfl rfl rfl ?_
     refine wl_nil (q_n (k386 _ _ ?_))
     refine sx_sub (Sub.cons (t := 2) rfl (.cons (t := 3) rfl (.cons (t := 4) rfl (.cons (t := 6) rfl (.cons (t := 8) rfl (.cons (t := 9) rfl (.cons (t := 12) rfl (.cons (t := 15) rfl (.cons (t := 16) rfl (.nil)))))))))) ?_
     refine sx_seq fun K389 k389 => ?_
     refine sx_seq fun K390 k390 => sx_region ?_
     refine sm rfl rfl rfl rfl ?_
     refine sx_pure rfl rfl rfl (px_lt rfl rfl) ?_
     refine wl_nil (q_n (k390 _ _ ?_))
     have h5759 : ¬ (((1 : Int) + ↑((mk (1 : Int) (((exct pv ts c1 n1 z1 to).2.1)).length)).length + ↑((mk ((1 : Int) + ↑(((exct pv ts c1 n1 z1 to).2.1)).length) (((exct pv ts c1 n1 z1 to).2.2.1)).length)).length : Int) < 0) := by omega
     refine sx_condPF rfl h5759 ?_
     refine sx_skip ?_
     refine q_n (k389 _ _ ?_)
     refine sx_seq fun K391 k391 => ?_
     refine sx_seq fun K392 k392 => sx_region ?_
     refine sm rfl rfl rfl rfl ?_
     refine sm rfl rfl rfl rfl ?_
     refine sx_pure rfl rfl rfl (px_ne rfl rfl) ?_
     refine wl_nil (q_n (k392 _ _ ?_))
     have h5762 : ¬ (((1 : Int) + ↑((mk (1 : Int) (((exct pv ts c1 n1 z1 to).2.1)).length)).length + ↑((mk ((1 : Int) + ↑(((exct pv ts c1 n1 z1 to).2.1)).length) (((exct pv ts c1 n1 z1 to).2.2.1)).length)).length : Int) ≠ (1 : Int) + ↑(((exct pv ts c1 n1 z1 to).2.1)).length + ↑(((exct pv ts c1 n1 z1 to).2.2.1)).length) := by simp [mk_length]
     refine sx_condPF rfl h5762 ?_
     refine sx_skip ?_
     refine q_n (k391 _ _ ?_)
     refine sx_seq fun K393 k393 => ?_
     refine sx_cut k393 (fun fr w' => ∃ (gb394x0 : Nat) (gs394x1 : Value) (gl394x1 : Nat) (gu394x1 : Nat) (gs394x2 : Value) (gl394x2 : Nat) (gu394x2 : Nat), fr = [(6, .bool false), (8, .pointer (some ⟨gb28x0, 0, none⟩)), (9, .bool ((exct pv ts c1 n1 z1 to).2.2.2)), (12, .pointer (some ⟨b169, 0, none⟩)), (15, .int .i64 ((1 : Int) + ↑(((exct pv ts c1 n1 z1 to).2.1)).length + ↑(((exct pv ts c1 n1 z1 to).2.2.1)).length)), (16, .int .i64 ((1 : Int) + ↑((mk (1 : Int) (((exct pv ts c1 n1 z1 to).2.1)).length)).length + ↑((mk ((1 : Int) + ↑(((exct pv ts c1 n1 z1 to).2.1)).length) (((exct pv ts c1 n1 z1 to).2.2.1)).length)).length)), (17, .pointer (some ⟨gb394x0, 0, none⟩)), (18, .bool ((exct pv ts c1 n1 z1 to).2.2.2))] ∧ Chg 0 0 w388 w' ∧ (Blk w' gb394x0 [.bool ((exct pv ts c1 n1 z1 to).1), gs394x1, gs394x2] 30) ∧ (Own w' gl394x1 gu394x1 gs394x1 intT (((exct pv ts c1 n1 z1 to).2.1).length) 1 (((exct pv ts c1 n1 z1 to).2.1).map (Value.int .i64))) ∧ (Own w' gl394x2 gu394x2 gs394x2 intT (((exct pv ts c1 n1 z1 to).2.2.1).length) 1 (((exct pv ts c1 n1 z1 to).2.2.1).map (Value.int .i64))) ∧ (w388.heap.size ≤ gb394x0 ∧ gb394x0 + 1 ≤ w'.heap.size) ∧ (w388.heap.size ≤ gl394x1 ∧ gu394x1 ≤ w'.heap.size) ∧ (w388.heap.size ≤ gl394x2 ∧ gu394x2 ≤ w'.heap.size) ∧ (gu394x1 ≤ gb394x0 ∨ gb394x0 + 1 ≤ gl394x1) ∧ (gu394x2 ≤ gb394x0 ∨ gb394x0 + 1 ≤ gl394x2) ∧ (gu394x2 ≤ gl394x1 ∨ gu394x1 ≤ gl394x2)) (fun kc394 => ?_) ?_
     ·
      have f395 := f280.ext d321
      have f396 := f395.ext c323
      have f397 := f396.ext c327
      have f398 := f397.chg c337 (by omega)
      have f399 := f398.chg c345 (by omega)
      have f400 := f399.ext c378
      have f401 := f400.chg c384 (by omega)
      have f402 := f401.ext c388
      have f403 := f283.ext d321
      have f404 := f403.ext c323
      have f405 := f404.ext c327
      have f406 := f405.chg c337 (by omega)
      have f407 := f406.chg c345 (by omega)
      have f408 := f407.ext c378
      have f409 := f408.chg c384 (by omega)
      have f410 := f409.ext c388
      have f411 := f286.ext d321
      have f412 := f411.ext c323
      have f413 := f412.ext c327
      have f414 := f413.chg c337 (by omega)
      have f415 := f414.chg c345 (by omega)
      have f416 := f415.ext c378
      have f417 := f416.chg c384 (by omega)
      have f418 := f417.ext c388
      have f419 := f357.ext c378
      have f420 := f419.chg c384 (by omega)
      have f421 := f420.ext c388
      have f422 := f333.chg c337 (by omega)
      have f423 := f422.chg c345 (by omega)
      have f424 := f423.ext c378
      have f425 := f424.chg c384 (by omega)
      have f426 := f425.ext c388
      have f427 := f342.chg c345 (by omega)
      have f428 := f427.ext c378
      have f429 := f428.chg c384 (by omega)
      have f430 := f429.ext c388
      have f431 := f387.ext c388
      have f432 := f300.ext d321
      have f433 := f432.ext c323
      have f434 := f433.ext c327
      have f435 := f434.chg c337 (by omega)
      have f436 := f435.chg c345 (by omega)
      have f437 := f436.ext c378
      have f438 := f437.chg c384 (by omega)
      have f439 := f438.ext c388
      have f440 := f322.ext c323
      have f441 := f440.ext c327
      have f442 := f441.chg c337 (by omega)
      have f443 := f442.chg c345 (by omega)
      have f444 := f443.ext c378
      have f445 := f444.chg c384 (by omega)
      have f446 := f445.ext c388
      have f447 := f372.ext c378
      have f448 := f447.chg c384 (by omega)
      have f449 := f448.ext c388
      have f450 := f377.ext c378
      have f451 := f450.chg c384 (by omega)
      have f452 := f451.ext c388
      have f453 := ov1_345.ext c378
      have f454 := f453.chg c384 (by omega)
      have f455 := f454.ext c388
      have f456 := ov1_384.ext c388
      have f457 := od1_384.ext c388
      have f458 := f320.ext d321
      have f459 := f458.ext c323
      have f460 := f459.ext c327
      have f461 := f460.chg c337 (by omega)
      have f462 := f461.chg c345 (by omega)
      have f463 := f462.ext c378
      have f464 := f463.chg c384 (by omega)
      have f465 := f464.ext c388
      have f466 := os2_323.ext c327
      have f467 := f466.chg c337 (by omega)
      have f468 := f467.chg c345 (by omega)
      have f469 := f468.ext c378
      have f470 := f469.chg c384 (by omega)
      have f471 := f470.ext c388
      refine dx_region (fun w' => Chg 0 0 w388 w') (by kernel_rfl) (Chg.zero (Chg.drew _)) ?_
      have d472 := Chg.drew w388
      have s472 : Chg 0 0 w388 (World.drew w388) := Chg.zero (Chg.drew _)
      have y472 : (World.drew w388).heap.size = w388.heap.size := rfl
      generalize World.drew w388 = w472 at *
      have zw472 := d472.size
      refine dx_take 0 rfl rfl rfl rfl (by kernel_rfl) (by kernel_rfl) (by kernel_rfl) s472 (fun _ hS => px_load rfl ((f410.chg hS (by omega)).loadA (vs := [.string pv, vt]) (look_lit rfl) Tryz.isAgg24 Tryz.sizeOf24)) ?_
      refine dx_take 2 rfl rfl rfl rfl (by kernel_rfl) (by kernel_rfl) (by kernel_rfl) s472 (fun _ hS => px_load rfl ((f418.chg hS (by omega)).loadA (vs := [.string c1, .bool n1, v1]) (look_lit rfl) Tryz.isAgg44 Tryz.sizeOf44)) ?_
      refine dx_take 4 rfl rfl rfl rfl (by kernel_rfl) (by kernel_rfl) (by kernel_rfl) s472 (fun _ hS => px_move rfl) ?_
      refine dx_eff2 1 9 rfl rfl (by kernel_rfl) ?_ ?_
      ·
       have f473 := f439.ext d472
       refine sx_call rfl rfl Tryz.call9 (c_toRates f473 (by omega) (hzs (by omega))) (fun v474 w474 p474 => ?_)
       obtain ⟨s474, us474, rfl, os_474, c474⟩ := p474
       have zw474 := c474.size
       have s475 : Chg 0 0 w388 w474 := (d472.t c474)
       refine wl_nil ?_
       refine dx_next s475 ?_
       refine dx_eff2 3 9 rfl rfl (by kernel_rfl) ?_ ?_
       ·
        have f476 := f446.ext d472
        have f477 := f476.ext c474
        refine sx_call rfl rfl Tryz.call20 (c_toMoney f477 (by omega)) (fun v478 w478 p478 => ?_)
        obtain ⟨s2478, rfl, os2_478, c478⟩ := p478
        have zw478 := c478.size
        have s479 : Chg 0 0 w388 w478 := ((d472.t c474).t c478)
        refine wl_nil ?_
        refine dx_next s479 ?_
        refine dx_eff2 5 9 rfl rfl (by kernel_rfl) ?_ ?_
        ·
         have f480 := f402.ext d472
         have f481 := f480.ext c474
         have f482 := f481.ext c478
         have f483 := os_474.ext c478
         refine sx_call rfl rfl Tryz.call21 (c_iExact f482 (f483).toS os2_478.sv (by omega) (fun i hi => Nat.le_trans (hzs (by omega) i hi) (by omega)) (by omega)) (fun v484 w484 p484 => ?_)
         obtain ⟨s484, t484, ls484, us484, lt484, ut484, rfl, os_484, ot_484, hd484, hl484, c484⟩ := p484
         have zw484 := c484.size
         have s485 : Chg 0 0 w388 w484 := (((d472.t c474).t c478).t c484)
         refine wl_nil ?_
         refine dx_next s485 ?_
         refine dx_take 6 rfl rfl rfl rfl (by kernel_rfl) (by kernel_rfl) (by kernel_rfl) s485 (fun _ hS => px_move rfl) ?_
         refine dx_take 7 rfl rfl rfl rfl (by kernel_rfl) (by kernel_rfl) (by kernel_rfl) s485 (fun _ hS => px_extract (vs := [.agg #[.bool ((exct pv ts c1 n1 z1 to).1), s484, t484], .bool ((exct pv ts c1 n1 z1 to).2.2.2)]) rfl rfl) ?_
         refine dx_take 8 rfl rfl rfl rfl (by kernel_rfl) (by kernel_rfl) (by kernel_rfl) s485 (fun _ hS => px_extract (vs := [.agg #[.bool ((exct pv ts c1 n1 z1 to).1), s484, t484], .bool ((exct pv ts c1 n1 z1 to).2.2.2)]) rfl rfl) ?_
         refine dx_eff 9 rfl (by kernel_rfl) ?_
         refine sx_alloc [.bool false, (.slice none 0 0), (.slice none 0 0)] rfl Tryz.zeroValue30 rfl (fun b486 w487 eb486 sb486 fb486 cb486 => ?_)
         have zw487 := cb486.size
         have s488 : Chg 0 0 w388 w487 := ((((d472.t c474).t c478).t c484).t cb486)
         refine wl_nil ?_
         refine dx_next s488 ?_
         refine dx_eff 10 rfl (by kernel_rfl) ?_
         have f490 := ot_484.ext cb486
         have f491 := os_484.ext cb486
         refine sx_store (vs := [.bool ((exct pv ts c1 n1 z1 to).1), s484, t484]) rfl rfl fb486 rfl Tryz.sizeOf30 (Nat.le_of_ble_eq_true rfl) (one_cons rfl (one_cons f491.one (one_cons f490.one one_nil))) (fun w489 sw489 fw489 cw489 => ?_)
         have zw489 := cw489.size
         have gw489 : Blk w489 b486 [.bool ((exct pv ts c1 n1 z1 to).1), s484, t484] 30 := fw489
         have q493 := Chg.step (l := 0) (h := 0) (Chg.zero (l := 0) (h := 0) ((((d472.t c474).t c478).t c484).t cb486)) cw489 (by omega)
         have s492 : Chg 0 0 w388 w489 := q493
         refine wl_nil ?_
         refine dx_next s492 ?_
         refine dx_take 11 rfl rfl rfl rfl (by kernel_rfl) (by kernel_rfl) (by kernel_rfl) s492 (fun _ hS => px_assign rfl) ?_
         refine dx_done (by kernel_rfl) ?_
         have f494 := f491.chg cw489 (by omega)
         have f495 := f490.chg cw489 (by omega)
         have q496 := Chg.step (l := 0) (h := 0) (Chg.zero (l := 0) (h := 0) ((((d472.t c474).t c478).t c484).t cb486)) cw489 (by omega)
         exact q_n (kw_sub (Sub.cons (t := 6) rfl (.cons (t := 8) rfl (.cons (t := 9) rfl (.cons (t := 12) rfl (.cons (t := 15) rfl (.cons (t := 16) rfl (.cons (t := 17) rfl (.cons (t := 18) rfl (.nil))))))))) (kc394 _ _ ⟨b486, s484, ls484, us484, t484, lt484, ut484, rfl, q496, gw489, f494, f495, by omega, by omega, by omega, by omega, by omega, by omega⟩))
        ·
         refine sx_alloc [.bool false, (.slice none 0 0), (.slice none 0 0)] rfl Tryz.zeroValue30 rfl (fun b497 w498 eb497 sb497 fb497 cb497 => ?_)
         have zw498 := cb497.size
         have s499 : Chg 0 0 w388 w498 := (((d472.t c474).t c478).t cb497)
         refine wl_nil ?_
         refine dx_next s499 ?_
         refine dx_eff 5 rfl (by kernel_rfl) ?_
         have f500 := f402.ext d472
         have f501 := f500.ext c474
         have f502 := f501.ext c478
         have f503 := f502.ext cb497
         have f504 := os_474.ext c478
         have f505 := f504.ext cb497
         have f506 := os2_478.ext cb497
         refine sx_call rfl rfl Tryz.call21 (c_iExact f503 (f505).toS f506.sv (by omega) (fun i hi => Nat.le_trans (hzs (by omega) i hi) (by omega)) (by omega)) (fun v507 w507 p507 => ?_)
         obtain ⟨s507, t507, ls507, us507, lt507, ut507, rfl, os_507, ot_507, hd507, hl507, c507⟩ := p507
         have zw507 := c507.size
         have s508 : Chg 0 0 w388 w507 := ((((d472.t c474).t c478).t cb497).t c507)
         refine wl_nil ?_
         refine dx_next s508 ?_
         refine dx_take 6 rfl rfl rfl rfl (by kernel_rfl) (by kernel_rfl) (by kernel_rfl) s508 (fun _ hS => px_move rfl) ?_
         refine dx_take 7 rfl rfl rfl rfl (by kernel_rfl) (by kernel_rfl) (by kernel_rfl) s508 (fun _ hS => px_extract (vs := [.agg #[.bool ((exct pv ts c1 n1 z1 to).1), s507, t507], .bool ((exct pv ts c1 n1 z1 to).2.2.2)]) rfl rfl) ?_
         refine dx_take 8 rfl rfl rfl rfl (by kernel_rfl) (by kernel_rfl) (by kernel_rfl) s508 (fun _ hS => px_extract (vs := [.agg #[.bool ((exct pv ts c1 n1 z1 to).1), s507, t507], .bool ((exct pv ts c1 n1 z1 to).2.2.2)]) rfl rfl) ?_
         refine dx_eff 10 rfl (by kernel_rfl) ?_
         have f510 := fb497.ext c507
         refine sx_store (vs := [.bool ((exct pv ts c1 n1 z1 to).1), s507, t507]) rfl rfl f510 rfl Tryz.sizeOf30 (Nat.le_of_ble_eq_true rfl) (one_cons rfl (one_cons os_507.one (one_cons ot_507.one one_nil))) (fun w509 sw509 fw509 cw509 => ?_)
         have zw509 := cw509.size
         have gw509 : Blk w509 b497 [.bool ((exct pv ts c1 n1 z1 to).1), s507, t507] 30 := fw509
         have q512 := Chg.step (l := 0) (h := 0) (Chg.zero (l := 0) (h := 0) ((((d472.t c474).t c478).t cb497).t c507)) cw509 (by omega)
         have s511 : Chg 0 0 w388 w509 := q512
         refine wl_nil ?_
         refine dx_next s511 ?_
         refine dx_take 11 rfl rfl rfl rfl (by kernel_rfl) (by kernel_rfl) (by kernel_rfl) s511 (fun _ hS => px_assign rfl) ?_
         refine dx_done (by kernel_rfl) ?_
         have f513 := os_507.chg cw509 (by omega)
         have f514 := ot_507.chg cw509 (by omega)
         have q515 := Chg.step (l := 0) (h := 0) (Chg.zero (l := 0) (h := 0) ((((d472.t c474).t c478).t cb497).t c507)) cw509 (by omega)
         exact q_n (kw_sub (Sub.cons (t := 6) rfl (.cons (t := 8) rfl (.cons (t := 9) rfl (.cons (t := 12) rfl (.cons (t := 15) rfl (.cons (t := 16) rfl (.cons (t := 17) rfl (.cons (t := 18) rfl (.nil))))))))) (kc394 _ _ ⟨b497, s507, ls507, us507, t507, lt507, ut507, rfl, q515, gw509, f513, f514, by omega, by omega, by omega, by omega, by omega, by omega⟩))
       ·
        refine sx_alloc [.bool false, (.slice none 0 0), (.slice none 0 0)] rfl Tryz.zeroValue30 rfl (fun b516 w517 eb516 sb516 fb516 cb516 => ?_)
        have zw517 := cb516.size
        have s518 : Chg 0 0 w388 w517 := ((d472.t c474).t cb516)
        refine wl_nil ?_
        refine dx_next s518 ?_
        refine dx_eff 3 rfl (by kernel_rfl) ?_
        have f519 := f446.ext d472
        have f520 := f519.ext c474
        have f521 := f520.ext cb516
        refine sx_call rfl rfl Tryz.call20 (c_toMoney f521 (by omega)) (fun v522 w522 p522 => ?_)
        obtain ⟨s2522, rfl, os2_522, c522⟩ := p522
        have zw522 := c522.size
        have s523 : Chg 0 0 w388 w522 := (((d472.t c474).t cb516).t c522)
        refine wl_nil ?_
        refine dx_next s523 ?_
        refine dx_eff 5 rfl (by kernel_rfl) ?_
        have f524 := f402.ext d472
        have f525 := f524.ext c474
        have f526 := f525.ext cb516
        have f527 := f526.ext c522
        have f528 := os_474.ext cb516
        have f529 := f528.ext c522
        refine sx_call rfl rfl Tryz.call21 (c_iExact f527 (f529).toS os2_522.sv (by omega) (fun i hi => Nat.le_trans (hzs (by omega) i hi) (by omega)) (by omega)) (fun v530 w530 p530 => ?_)
        obtain ⟨s530, t530, ls530, us530, lt530, ut530, rfl, os_530, ot_530, hd530, hl530, c530⟩ := p530
        have zw530 := c530.size
        have s531 : Chg 0 0 w388 w530 := ((((d472.t c474).t cb516).t c522).t c530)
        refine wl_nil ?_
        refine dx_next s531 ?_
        refine dx_take 6 rfl rfl rfl rfl (by kernel_rfl) (by kernel_rfl) (by kernel_rfl) s531 (fun _ hS => px_move rfl) ?_
        refine dx_take 7 rfl rfl rfl rfl (by kernel_rfl) (by kernel_rfl) (by kernel_rfl) s531 (fun _ hS => px_extract (vs := [.agg #[.bool ((exct pv ts c1 n1 z1 to).1), s530, t530], .bool ((exct pv ts c1 n1 z1 to).2.2.2)]) rfl rfl) ?_
        refine dx_take 8 rfl rfl rfl rfl (by kernel_rfl) (by kernel_rfl) (by kernel_rfl) s531 (fun _ hS => px_extract (vs := [.agg #[.bool ((exct pv ts c1 n1 z1 to).1), s530, t530], .bool ((exct pv ts c1 n1 z1 to).2.2.2)]) rfl rfl) ?_
        refine dx_eff 10 rfl (by kernel_rfl) ?_
        have f533 := fb516.ext c522
        have f534 := f533.ext c530
        refine sx_store (vs := [.bool ((exct pv ts c1 n1 z1 to).1), s530, t530]) rfl rfl f534 rfl Tryz.sizeOf30 (Nat.le_of_ble_eq_true rfl) (one_cons rfl (one_cons os_530.one (one_cons ot_530.one one_nil))) (fun w532 sw532 fw532 cw532 => ?_)
        have zw532 := cw532.size
        have gw532 : Blk w532 b516 [.bool ((exct pv ts c1 n1 z1 to).1), s530, t530] 30 := fw532
        have q536 := Chg.step (l := 0) (h := 0) (Chg.zero (l := 0) (h := 0) ((((d472.t c474).t cb516).t c522).t c530)) cw532 (by omega)
        have s535 : Chg 0 0 w388 w532 := q536
        refine wl_nil ?_
        refine dx_next s535 ?_
        refine dx_take 11 rfl rfl rfl rfl (by kernel_rfl) (by kernel_rfl) (by kernel_rfl) s535 (fun _ hS => px_assign rfl) ?_
        refine dx_done (by kernel_rfl) ?_
        have f537 := os_530.chg cw532 (by omega)
        have f538 := ot_530.chg cw532 (by omega)
        have q539 := Chg.step (l := 0) (h := 0) (Chg.zero (l := 0) (h := 0) ((((d472.t c474).t cb516).t c522).t c530)) cw532 (by omega)
        exact q_n (kw_sub (Sub.cons (t := 6) rfl (.cons (t := 8) rfl (.cons (t := 9) rfl (.cons (t := 12) rfl (.cons (t := 15) rfl (.cons (t := 16) rfl (.cons (t := 17) rfl (.cons (t := 18) rfl (.nil))))))))) (kc394 _ _ ⟨b516, s530, ls530, us530, t530, lt530, ut530, rfl, q539, gw532, f537, f538, by omega, by omega, by omega, by omega, by omega, by omega⟩))
      ·
       refine sx_alloc [.bool false, (.slice none 0 0), (.slice none 0 0)] rfl Tryz.zeroValue30 rfl (fun b540 w541 eb540 sb540 fb540 cb540 => ?_)
       have zw541 := cb540.size
       have s542 : Chg 0 0 w388 w541 := (d472.t cb540)
       refine wl_nil ?_
       refine dx_next s542 ?_
       refine dx_eff 1 rfl (by kernel_rfl) ?_
       have f543 := f439.ext d472
       have f544 := f543.ext cb540
       refine sx_call rfl rfl Tryz.call9 (c_toRates f544 (by omega) (hzs (by omega))) (fun v545 w545 p545 => ?_)
       obtain ⟨s545, us545, rfl, os_545, c545⟩ := p545
       have zw545 := c545.size
       have s546 : Chg 0 0 w388 w545 := ((d472.t cb540).t c545)
       refine wl_nil ?_
       refine dx_next s546 ?_
       refine dx_eff 3 rfl (by kernel_rfl) ?_
       have f547 := f446.ext d472
       have f548 := f547.ext cb540
       have f549 := f548.ext c545
       refine sx_call rfl rfl Tryz.call20 (c_toMoney f549 (by omega)) (fun v550 w550 p550 => ?_)
       obtain ⟨s2550, rfl, os2_550, c550⟩ := p550
       have zw550 := c550.size
       have s551 : Chg 0 0 w388 w550 := (((d472.t cb540).t c545).t c550)
       refine wl_nil ?_
       refine dx_next s551 ?_
       refine dx_eff 5 rfl (by kernel_rfl) ?_
       have f552 := f402.ext d472
       have f553 := f552.ext cb540
       have f554 := f553.ext c545
       have f555 := f554.ext c550
       have f556 := os_545.ext c550
       refine sx_call rfl rfl Tryz.call21 (c_iExact f555 (f556).toS os2_550.sv (by omega) (fun i hi => Nat.le_trans (hzs (by omega) i hi) (by omega)) (by omega)) (fun v557 w557 p557 => ?_)
       obtain ⟨s557, t557, ls557, us557, lt557, ut557, rfl, os_557, ot_557, hd557, hl557, c557⟩ := p557
       have zw557 := c557.size
       have s558 : Chg 0 0 w388 w557 := ((((d472.t cb540).t c545).t c550).t c557)
       refine wl_nil ?_
       refine dx_next s558 ?_
       refine dx_take 6 rfl rfl rfl rfl (by kernel_rfl) (by kernel_rfl) (by kernel_rfl) s558 (fun _ hS => px_move rfl) ?_
       refine dx_take 7 rfl rfl rfl rfl (by kernel_rfl) (by kernel_rfl) (by kernel_rfl) s558 (fun _ hS => px_extract (vs := [.agg #[.bool ((exct pv ts c1 n1 z1 to).1), s557, t557], .bool ((exct pv ts c1 n1 z1 to).2.2.2)]) rfl rfl) ?_
       refine dx_take 8 rfl rfl rfl rfl (by kernel_rfl) (by kernel_rfl) (by kernel_rfl) s558 (fun _ hS => px_extract (vs := [.agg #[.bool ((exct pv ts c1 n1 z1 to).1), s557, t557], .bool ((exct pv ts c1 n1 z1 to).2.2.2)]) rfl rfl) ?_
       refine dx_eff 10 rfl (by kernel_rfl) ?_
       have f560 := fb540.ext c545
       have f561 := f560.ext c550
       have f562 := f561.ext c557
       refine sx_store (vs := [.bool ((exct pv ts c1 n1 z1 to).1), s557, t557]) rfl rfl f562 rfl Tryz.sizeOf30 (Nat.le_of_ble_eq_true rfl) (one_cons rfl (one_cons os_557.one (one_cons ot_557.one one_nil))) (fun w559 sw559 fw559 cw559 => ?_)
       have zw559 := cw559.size
       have gw559 : Blk w559 b540 [.bool ((exct pv ts c1 n1 z1 to).1), s557, t557] 30 := fw559
       have q564 := Chg.step (l := 0) (h := 0) (Chg.zero (l := 0) (h := 0) ((((d472.t cb540).t c545).t c550).t c557)) cw559 (by omega)
       have s563 : Chg 0 0 w388 w559 := q564
       refine wl_nil ?_
       refine dx_next s563 ?_
       refine dx_take 11 rfl rfl rfl rfl (by kernel_rfl) (by kernel_rfl) (by kernel_rfl) s563 (fun _ hS => px_assign rfl) ?_
       refine dx_done (by kernel_rfl) ?_
       have f565 := os_557.chg cw559 (by omega)
       have f566 := ot_557.chg cw559 (by omega)
       have q567 := Chg.step (l := 0) (h := 0) (Chg.zero (l := 0) (h := 0) ((((d472.t cb540).t c545).t c550).t c557)) cw559 (by omega)
       exact q_n (kw_sub (Sub.cons (t := 6) rfl (.cons (t := 8) rfl (.cons (t := 9) rfl (.cons (t := 12) rfl (.cons (t := 15) rfl (.cons (t := 16) rfl (.cons (t := 17) rfl (.cons (t := 18) rfl (.nil))))))))) (kc394 _ _ ⟨b540, s557, ls557, us557, t557, lt557, ut557, rfl, q567, gw559, f565, f566, by omega, by omega, by omega, by omega, by omega, by omega⟩))
     ·
      rintro fr w'394 ⟨gb394x0, gs394x1, gl394x1, gu394x1, gs394x2, gl394x2, gu394x2, rfl, cw'394, xgb394x0, xgs394x1, xgs394x2, ygb394x0, ygl394x1, ygl394x2, dgl394x1xgb394x0, dgl394x2xgb394x0, dgl394x2xgl394x1⟩
      have zw'394 := cw'394.size
      refine sx_seq fun K568 k568 => ?_
      refine sx_seq fun K569 k569 => sx_region ?_
      refine sx_pure rfl rfl rfl (px_load rfl (xgb394x0.loadA (vs := [.bool ((exct pv ts c1 n1 z1 to).1), gs394x1, gs394x2]) (look_lit rfl) Tryz.isAgg30 Tryz.sizeOf30)) ?_
      have f570 := f357.ext c378
      have f571 := f570.chg c384 (by omega)
      have f572 := f571.ext c388
      have f573 := f572.ext cw'394
      refine sx_pure rfl rfl rfl (px_load rfl (f573.loadA (vs := [.bool ((exct pv ts c1 n1 z1 to).1), gs28x1, gs28x2]) (look_lit rfl) Tryz.isAgg30 Tryz.sizeOf30)) ?_
      have f574 := f372.ext c378
      have f575 := f574.chg c384 (by omega)
      have f576 := f575.ext c388
      have f577 := f576.ext cw'394
      have f578 := f377.ext c378
      have f579 := f578.chg c384 (by omega)
      have f580 := f579.ext c388
      have f581 := f580.ext cw'394
      refine sx_call rfl rfl Tryz.call11 (c_eqRat xgs394x1.sv xgs394x2.sv f577.sv f581.sv (by omega)) (fun v582 w582 p582 => ?_)
      obtain ⟨rfl, c582⟩ := p582
      have zw582 := c582.size
      refine sx_pure rfl rfl rfl (px_notP rfl) ?_
      refine sm rfl rfl rfl rfl ?_
      have h5766 : ¬ (¬ (((exct pv ts c1 n1 z1 to).1) = ((exct pv ts c1 n1 z1 to).1) ∧ ((exct pv ts c1 n1 z1 to).2.1) = ((exct pv ts c1 n1 z1 to).2.1) ∧ ((exct pv ts c1 n1 z1 to).2.2.1) = ((exct pv ts c1 n1 z1 to).2.2.1))) := by simp [mk_length]
      refine sx_tmpPF (t := 114) rfl h5766 ?_
      refine sx_guardT rfl rfl rfl ?_
      refine sm rfl rfl rfl rfl ?_
      refine sx_guardT rfl rfl rfl ?_
      refine sm rfl rfl rfl rfl ?_
      refine sx_guardT rfl rfl rfl ?_
      refine sx_pure rfl rfl rfl (px_neB Tryz.underlying4 rfl rfl) ?_
      refine sx_pure rfl rfl rfl (px_pick rfl rfl) ?_
      refine wl_nil (q_n (k569 _ _ ?_))
      refine sx_sub (Sub.cons (t := 6) rfl (.cons (t := 12) rfl (.cons (t := 15) rfl (.cons (t := 16) rfl (.cons (t := 118) rfl (.nil)))))) ?_
      have h5766x1 : (((exct pv ts c1 n1 z1 to).2.2.2) != ((exct pv ts c1 n1 z1 to).2.2.2)) = false := by simp [mk_length]
      refine sx_condBF rfl h5766x1 ?_
      refine sx_skip ?_
      refine q_n (k568 _ _ ?_)
      refine sx_seq fun K583 k583 => sx_region ?_
      refine sa rfl rfl rfl rfl ?_
      refine wl_nil (q_n (k583 _ _ ?_))
      refine sx_seq fun K584 k584 => sx_region ?_
      have f585 := f387.ext c388
      have f586 := f585.ext cw'394
      have f587 := f586.ext c582
      refine sx_pure rfl rfl rfl (px_load rfl (f587.loadA (vs := [.bool ((exct pv ts c1 n1 z1 to).1), s168, t168]) (look_lit rfl) Tryz.isAgg30 Tryz.sizeOf30)) ?_
      refine sm rfl rfl rfl rfl ?_
      have f588 := ov1_384.ext c388
      have f589 := f588.ext cw'394
      have f590 := f589.ext c582
      have f591 := od1_384.ext c388
      have f592 := f591.ext cw'394
      have f593 := f592.ext c582
      refine sx_call rfl rfl Tryz.call15 (c_heldRat f590.sv f593.sv (by first | omega | (simp only [mk_length]; omega)) (by first | omega | (simp only [mk_length]; omega)) (by simp [mk_length])) (fun v594 w594 p594 => ?_)
      obtain ⟨rfl, c594⟩ := p594
      have zw594 := c594.size
      refine sa rfl rfl rfl rfl ?_
      refine wl_nil (q_n (k584 _ _ ?_))
      refine sx_seq fun K595 k595 => ?_
      refine sx_seq fun K596 k596 => sx_region ?_
      refine sm rfl rfl rfl rfl ?_
      refine sx_pure rfl rfl rfl (px_lt rfl rfl) ?_
      refine wl_nil (q_n (k596 _ _ ?_))
      have h5771 : ¬ (((1 : Int) + ↑((mk (1 : Int) (((exct pv ts c1 n1 z1 to).2.1)).length)).length + ↑((mk ((1 : Int) + ↑(((exct pv ts c1 n1 z1 to).2.1)).length) (((exct pv ts c1 n1 z1 to).2.2.1)).length)).length : Int) < 0) := by omega
      refine sx_condPF rfl h5771 ?_
      refine sx_skip ?_
      refine q_n (k595 _ _ ?_)
      refine sx_seq fun K597 k597 => ?_
      refine sx_seq fun K598 k598 => sx_region ?_
      refine sm rfl rfl rfl rfl ?_
      refine sm rfl rfl rfl rfl ?_
      refine sx_pure rfl rfl rfl (px_ne rfl rfl) ?_
      refine wl_nil (q_n (k598 _ _ ?_))
      have h5774 : ¬ (((1 : Int) + ↑((mk (1 : Int) (((exct pv ts c1 n1 z1 to).2.1)).length)).length + ↑((mk ((1 : Int) + ↑(((exct pv ts c1 n1 z1 to).2.1)).length) (((exct pv ts c1 n1 z1 to).2.2.1)).length)).length : Int) ≠ (1 : Int) + ↑(((exct pv ts c1 n1 z1 to).2.1)).length + ↑(((exct pv ts c1 n1 z1 to).2.2.1)).length) := by simp [mk_length]
      refine sx_condPF rfl h5774 ?_
      refine sx_skip ?_
      refine q_n (k597 _ _ ?_)
      refine sx_seq fun K599 k599 => sx_region ?_
      refine sa rfl rfl rfl rfl ?_
      refine wl_nil (q_n (k599 _ _ ?_))
      refine sx_retc ?_
      refine sx_ret1 Tryz.results5 rfl ?_
      have q600 := Chg.step (l := 0) (h := 0) (Chg.zero (l := 0) (h := 0) ((((((cb2.t cb4).t c14).t c23).t cw'28).t c127).t cb128)) cw130 (by omega)
      have q601 := Chg.step (l := 0) (h := 0) q600 (c143.t cb144) (by omega)
      have q602 := Chg.step (l := 0) (h := 0) q601 cw146 (by omega)
      have q603 := Chg.step (l := 0) (h := 0) q602 (c168.t cb169) (by omega)
      have q604 := Chg.step (l := 0) (h := 0) q603 cw171 (by omega)
      have q605 := Chg.step (l := 0) (h := 0) q604 ((((((c205.t d268).t c270).t c274).t d321).t c323).t c327) (by omega)
      have q606 := Chg.step (l := 0) (h := 0) q605 c337 (by omega)
      have q607 := Chg.step (l := 0) (h := 0) q606 c345 (by omega)
      have q608 := Chg.step (l := 0) (h := 0) q607 c378 (by omega)
      have q609 := Chg.step (l := 0) (h := 0) q608 c384 (by omega)
      have q610 := Chg.step (l := 0) (h := 0) q609 (((c388.t cw'394).t c582).t c594) (by omega)
      exact ⟨rfl, q610⟩

end Go.Proofs.YtcghgfmickgnkaaGreatDoor
