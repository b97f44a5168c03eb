/- Contracts of functions of the program: what each call returns, and that it changes nothing that was. Conditions: as each says. -/
import Derived.Test.YtcghgfmickgnkaaGreatDoorTy
import Derived.Test.YtcghgfmickgnkaaGreatDoorNatP
import Derived.Test.YtcghgfmickgnkaaGreatDoorSxD
import Derived.Test.YtcghgfmickgnkaaGreatDoorPair
import Derived.Test.YtcghgfmickgnkaaGreatDoorSxP
import Derived.Test.YtcghgfmickgnkaaGreatDoorRm
import Derived.Test.YtcghgfmickgnkaaGreatDoorL0
import Derived.Test.YtcghgfmickgnkaaGreatDoorL3
import Derived.Test.YtcghgfmickgnkaaGreatDoorL5
set_option linter.unusedVariables false
set_option linter.unusedSimpArgs false
namespace Go.Proofs.YtcghgfmickgnkaaGreatDoor
open Go Go.RowKit
set_option maxRecDepth 100000
set_option maxHeartbeats 1000000
theorem law_Needed {w : World} {pv : ByteArray} {vt : Value} {lvt uvt : Nat} {ts : List Rt} {vvt : List Value} {c1 : ByteArray} {n1 : Bool} {v1 : Value} {lv1 uv1 : Nat} {z1 : List Int} {fo : ByteArray} (hG0 : Glob w) (hvt : RtS w lvt uvt vt ts vvt) (hv1 : Sl w lv1 uv1 v1 (z1)) (bpv : pv.size ≤ 9223372036854775807) (bts : ts.length ≤ 9223372036854775807) (hb : ∀ i, i < ts.length → RB (ts.getD i rt0)) (bc1 : c1.size ≤ 9223372036854775807) (bz1 : z1.length ≤ 9223372036854775807) (bfo : fo.size ≤ 9223372036854775807) :
  Ret Tryz.prog 6 [.agg #[.string pv, vt], .agg #[.string c1, .bool n1, v1], .string fo] w fun v w' => v = .bool (true) ∧ Chg 0 0 w w' := by
 have hvt0 := hvt.fit
 have hv10 := hv1.fit
 have hG0l : 0 < w.heap.size := by obtain ⟨T, fz, h1⟩ := hG0; rcases Nat.lt_or_ge 0 w.heap.size with h2 | h2; exact h2; simp [Array.getElem?_eq_none h2] at h1
 refine sx_enter Tryz.func6 rfl Tryz.ntmps6 (nbl rfl) ?_
 refine sx_seq fun K1 k1 => sx_region ?_
 refine sx_box [.string pv, vt] rfl rfl rfl (fun b2 w3 eb2 sb2 fb2 cb2 => ?_)
 have zw3 := cb2.size
 refine sx_box [.string c1, .bool n1, v1] rfl rfl rfl (fun b4 w5 eb4 sb4 fb4 cb4 => ?_)
 have zw5 := cb4.size
 refine av rfl rfl (wl_nil (q_n (k1 _ _ ?_)))
 refine sx_seq fun K6 k6 => ?_
 refine sx_seq fun K7 k7 => sx_region ?_
 refine mv rfl rfl (sp rfl (px_lenS rfl Tryz.underlying9) ?_)
 refine sp rfl (px_gt rfl rfl) ?_
 refine wl_nil (q_n (k7 _ _ ?_))
 refine sx_condP rfl (fun h5849 => ?_) (fun h5849 => ?_)
 ·
  refine sx_seq fun K8 k8 => sx_region ?_
  refine av rfl rfl (wl_nil (q_n (k8 _ _ ?_)))
  refine sx_retc ?_
  refine q_r (sx_ret1 Tryz.results6 rfl ?_)
  exact ⟨rfl, (cb2.t cb4)⟩
 refine sx_skip ?_
 refine q_n (k6 _ _ ?_)
 refine sx_seq fun K9 k9 => sx_region ?_
 refine av rfl rfl (wl_nil (q_n (k9 _ _ ?_)))
 refine sx_seq fun K10 k10 => sx_region ?_
 have f11 := fb2.ext cb4
 refine sp rfl (px_load rfl (f11.loadA (vs := [.string pv, vt]) (look_lit rfl) Tryz.isAgg24 Tryz.sizeOf24)) ?_
 refine mv rfl rfl ?_
 have f12 := hvt0.ext cb2
 have f13 := f12.ext cb4
 refine sx_call rfl rfl Tryz.call7 (c_szRates f13 (by omega) (by omega) (by assumption) (by omega)) (fun v14 w14 p14 => ?_)
 obtain ⟨r14, rfl, hr14, hzz14, c14⟩ := p14
 have zw14 := c14.size
 have hzs := hzz14
 refine av rfl rfl (wl_nil (q_n (k10 _ _ ?_)))
 refine sx_seq fun K15 k15 => ?_
 refine sx_seq fun K16 k16 => sx_region ?_
 refine mv rfl rfl (sp rfl (px_lt rfl rfl) ?_)
 refine wl_nil (q_n (k16 _ _ ?_))
 refine sx_sub (Sub.c 2 rfl (.c 3 rfl (.c 4 rfl (.c 6 rfl (.c 7 rfl (.c 26 rfl .nil)))))) ?_
 refine sx_condP rfl (fun h5854 => ?_) (fun h5854 => ?_)
 ·
  refine sx_seq fun K17 k17 => sx_region ?_
  refine av rfl rfl (wl_nil (q_n (k17 _ _ ?_)))
  refine sx_retc ?_
  refine q_r (sx_ret1 Tryz.results6 rfl ?_)
  exact ⟨rfl, ((cb2.t cb4).t c14)⟩
 replace hr14 := hr14.resolve_left h5854
 refine sx_skip ?_
 refine q_n (k15 _ _ ?_)
 refine sx_seq fun K18 k18 => sx_region ?_
 have f19 := fb4.ext c14
 refine sp rfl (px_load rfl (f19.loadA (vs := [.string c1, .bool n1, v1]) (look_lit rfl) Tryz.isAgg44 Tryz.sizeOf44)) ?_
 refine mv rfl rfl ?_
 have f20 := hv10.ext cb2
 have f21 := f20.ext cb4
 have f22 := f21.ext c14
 refine sx_call rfl rfl Tryz.call18 (c_szMoney f22 (by omega) (by omega) (by omega)) (fun v23 w23 p23 => ?_)
 obtain ⟨r23, rfl, hr23, c23⟩ := p23
 have zw23 := c23.size
 refine av rfl rfl (wl_nil (q_n (k18 _ _ ?_)))
 refine sx_seq fun K24 k24 => ?_
 refine sx_seq fun K25 k25 => sx_region ?_
 refine mv rfl rfl (sp rfl (px_lt rfl rfl) ?_)
 refine wl_nil (q_n (k25 _ _ ?_))
 refine sx_condP rfl (fun h5858 => ?_) (fun h5858 => ?_)
 ·
  refine sx_seq fun K26 k26 => sx_region ?_
  refine av rfl rfl (wl_nil (q_n (k26 _ _ ?_)))
  refine sx_retc ?_
  refine q_r (sx_ret1 Tryz.results6 rfl ?_)
  exact ⟨rfl, (((cb2.t cb4).t c14).t c23)⟩
 replace hr23 := hr23.resolve_left h5858
 refine sx_skip ?_
 refine q_n (k24 _ _ ?_)
 refine sx_seq fun K27 k27 => ?_
 refine sx_cut k27 (fun fr w' => ∃ (gb28x0 : Nat) (gs28x1 : Value) (gl28x1 : Nat) (gu28x1 : Nat), fr = [(2, .string fo), (3, .pointer (some ⟨b2, 0, none⟩)), (4, .pointer (some ⟨b4, 0, none⟩)), (6, .bool false), (8, .pointer (some ⟨gb28x0, 0, none⟩)), (9, .bool ((need pv ts c1 n1 z1 fo).2.2.2))] ∧ Chg 0 0 w23 w' ∧ (Blk w' gb28x0 [.string ((need pv ts c1 n1 z1 fo).1), .bool ((need pv ts c1 n1 z1 fo).2.1), gs28x1] 48) ∧ (Own w' gl28x1 gu28x1 gs28x1 intT (((need pv ts c1 n1 z1 fo).2.2.1).length) 1 (((need pv ts c1 n1 z1 fo).2.2.1).map (Value.int .i64))) ∧ (w23.heap.size ≤ gb28x0 ∧ gb28x0 + 1 ≤ w'.heap.size) ∧ (w23.heap.size ≤ gl28x1 ∧ gu28x1 ≤ w'.heap.size) ∧ (gu28x1 ≤ gb28x0 ∨ gb28x0 + 1 ≤ gl28x1)) (fun kc28 => ?_) ?_
 ·
  have f29 := hG0.ext cb2
  have f30 := f29.ext cb4
  have f32 := (f30.ext c14).ext c23
  have f34 := (f11.ext c14).ext c23
  have f35 := f19.ext c23
  have f37 := (f13.ext c14).ext c23
  have f38 := f22.ext c23
  refine dx_region (fun w' => Chg 0 0 w23 w') (by kernel_rfl) (Chg.zero (Chg.drew _)) ?_
  have d39 := Chg.drew w23
  have s39 : Chg 0 0 w23 (World.drew w23) := Chg.zero (Chg.drew _)
  have y39 : (World.drew w23).heap.size = w23.heap.size := rfl
  generalize World.drew w23 = w39 at *
  have zw39 := d39.size
  refine dt 0 rfl rfl rfl rfl s39 (fun _ hS => px_load rfl ((f34.chg hS (by omega)).loadA (vs := [.string pv, vt]) (look_lit rfl) Tryz.isAgg24 Tryz.sizeOf24)) ?_
  refine dt 2 rfl rfl rfl rfl s39 (fun _ hS => px_load rfl ((f35.chg hS (by omega)).loadA (vs := [.string c1, .bool n1, v1]) (look_lit rfl) Tryz.isAgg44 Tryz.sizeOf44)) ?_
  refine dt 4 rfl rfl rfl rfl s39 (fun _ hS => px_move rfl) ?_
  refine dx_eff2 1 9 rfl rfl (by kernel_rfl) ?_ ?_
  ·
   have f40 := f37.ext d39
   refine sx_call rfl rfl Tryz.call9 (c_toRates f40 (by omega) (hzs (by omega))) (fun v41 w41 p41 => ?_)
   obtain ⟨s41, us41, rfl, os_41, c41⟩ := p41
   have zw41 := c41.size
   have s42 : Chg 0 0 w23 w41 := (d39.t c41)
   refine wl_nil ?_
   refine dx_next s42 ?_
   refine dx_eff2 3 9 rfl rfl (by kernel_rfl) ?_ ?_
   ·
    have f44 := (f38.ext d39).ext c41
    refine sx_call rfl rfl Tryz.call20 (c_toMoney f44 (by omega)) (fun v45 w45 p45 => ?_)
    obtain ⟨s245, rfl, os2_45, c45⟩ := p45
    have zw45 := c45.size
    have s46 : Chg 0 0 w23 w45 := ((d39.t c41).t c45)
    refine wl_nil ?_
    refine dx_next s46 ?_
    refine dx_eff2 5 9 rfl rfl (by kernel_rfl) ?_ ?_
    ·
     have f47 := os_41.ext c45
     refine sx_call rfl rfl Tryz.call24 (c_sNeeded (f47).toS os2_45.sv (by omega) (fun i hi => Nat.le_trans (hzs (by omega) i hi) (by omega)) (by omega)) (fun v48 w48 p48 => ?_)
     obtain ⟨s48, rfl, os_48, hl48, c48⟩ := p48
     have zw48 := c48.size
     have s49 : Chg 0 0 w23 w48 := (((d39.t c41).t c45).t c48)
     refine wl_nil ?_
     refine dx_next s49 ?_
     refine dt 6 rfl rfl rfl rfl s49 (fun _ hS => px_move rfl) ?_
     refine dt 7 rfl rfl rfl rfl s49 (fun _ hS => px_ex2 rfl rfl) ?_
     refine dt 8 rfl rfl rfl rfl s49 (fun _ hS => px_ex2 rfl rfl) ?_
     refine dx_eff 9 rfl (by kernel_rfl) ?_
     refine sx_alloc [.string (⟨#[]⟩), .bool false, (.slice none 0 0)] rfl Tryz.zeroValue48 rfl (fun b50 w51 eb50 sb50 fb50 cb50 => ?_)
     have zw51 := cb50.size
     have s52 : Chg 0 0 w23 w51 := ((((d39.t c41).t c45).t c48).t cb50)
     refine wl_nil ?_
     refine dx_next s52 ?_
     refine dx_eff 10 rfl (by kernel_rfl) ?_
     have f54 := os_48.ext cb50
     refine sx_store (vs := [.string ((need pv ts c1 n1 z1 fo).1), .bool ((need pv ts c1 n1 z1 fo).2.1), s48]) rfl rfl fb50 rfl Tryz.sizeOf48 (nbl rfl) (one_cons rfl (one_cons rfl (one_cons f54.one one_nil))) (fun w53 sw53 fw53 cw53 => ?_)
     have zw53 := cw53.size
     have gw53 : Blk w53 b50 [.string ((need pv ts c1 n1 z1 fo).1), .bool ((need pv ts c1 n1 z1 fo).2.1), s48] 48 := fw53
     have q56 := Chg.step (l := 0) (h := 0) (Chg.zero (l := 0) (h := 0) ((((d39.t c41).t c45).t c48).t cb50)) cw53 (by omega)
     have s55 : Chg 0 0 w23 w53 := q56
     refine wl_nil ?_
     refine dx_next s55 ?_
     refine dt 11 rfl rfl rfl rfl s55 (fun _ hS => px_assign rfl) ?_
     refine dx_done (by kernel_rfl) ?_
     have f57 := f54.chg cw53 (by omega)
     have q58 := Chg.step (l := 0) (h := 0) (Chg.zero (l := 0) (h := 0) ((((d39.t c41).t c45).t c48).t cb50)) cw53 (by omega)
     exact q_n (kw_sub (Sub.c 2 rfl (.c 3 rfl (.c 4 rfl (.c 6 rfl (.c 8 rfl (.c 9 rfl .nil)))))) (kc28 _ _ ⟨b50, s48, w45.heap.size, w48.heap.size, rfl, q58, gw53, f57, by omega, by omega, by omega⟩))
    refine sx_alloc [.string (⟨#[]⟩), .bool false, (.slice none 0 0)] rfl Tryz.zeroValue48 rfl (fun b59 w60 eb59 sb59 fb59 cb59 => ?_)
    have zw60 := cb59.size
    have s61 : Chg 0 0 w23 w60 := (((d39.t c41).t c45).t cb59)
    refine wl_nil ?_
    refine dx_next s61 ?_
    refine dx_eff 5 rfl (by kernel_rfl) ?_
    have f63 := (os_41.ext c45).ext cb59
    have f64 := os2_45.ext cb59
    refine sx_call rfl rfl Tryz.call24 (c_sNeeded (f63).toS f64.sv (by omega) (fun i hi => Nat.le_trans (hzs (by omega) i hi) (by omega)) (by omega)) (fun v65 w65 p65 => ?_)
    obtain ⟨s65, rfl, os_65, hl65, c65⟩ := p65
    have zw65 := c65.size
    have s66 : Chg 0 0 w23 w65 := ((((d39.t c41).t c45).t cb59).t c65)
    refine wl_nil ?_
    refine dx_next s66 ?_
    refine dt 6 rfl rfl rfl rfl s66 (fun _ hS => px_move rfl) ?_
    refine dt 7 rfl rfl rfl rfl s66 (fun _ hS => px_ex2 rfl rfl) ?_
    refine dt 8 rfl rfl rfl rfl s66 (fun _ hS => px_ex2 rfl rfl) ?_
    refine dx_eff 10 rfl (by kernel_rfl) ?_
    have f68 := fb59.ext c65
    refine sx_store (vs := [.string ((need pv ts c1 n1 z1 fo).1), .bool ((need pv ts c1 n1 z1 fo).2.1), s65]) rfl rfl f68 rfl Tryz.sizeOf48 (nbl rfl) (one_cons rfl (one_cons rfl (one_cons os_65.one one_nil))) (fun w67 sw67 fw67 cw67 => ?_)
    have zw67 := cw67.size
    have gw67 : Blk w67 b59 [.string ((need pv ts c1 n1 z1 fo).1), .bool ((need pv ts c1 n1 z1 fo).2.1), s65] 48 := fw67
    have q70 := Chg.step (l := 0) (h := 0) (Chg.zero (l := 0) (h := 0) ((((d39.t c41).t c45).t cb59).t c65)) cw67 (by omega)
    have s69 : Chg 0 0 w23 w67 := q70
    refine wl_nil ?_
    refine dx_next s69 ?_
    refine dt 11 rfl rfl rfl rfl s69 (fun _ hS => px_assign rfl) ?_
    refine dx_done (by kernel_rfl) ?_
    have f71 := os_65.chg cw67 (by omega)
    have q72 := Chg.step (l := 0) (h := 0) (Chg.zero (l := 0) (h := 0) ((((d39.t c41).t c45).t cb59).t c65)) cw67 (by omega)
    exact q_n (kw_sub (Sub.c 2 rfl (.c 3 rfl (.c 4 rfl (.c 6 rfl (.c 8 rfl (.c 9 rfl .nil)))))) (kc28 _ _ ⟨b59, s65, w60.heap.size, w65.heap.size, rfl, q72, gw67, f71, by omega, by omega, by omega⟩))
   refine sx_alloc [.string (⟨#[]⟩), .bool false, (.slice none 0 0)] rfl Tryz.zeroValue48 rfl (fun b73 w74 eb73 sb73 fb73 cb73 => ?_)
   have zw74 := cb73.size
   have s75 : Chg 0 0 w23 w74 := ((d39.t c41).t cb73)
   refine wl_nil ?_
   refine dx_next s75 ?_
   refine dx_eff 3 rfl (by kernel_rfl) ?_
   have f78 := ((f38.ext d39).ext c41).ext cb73
   refine sx_call rfl rfl Tryz.call20 (c_toMoney f78 (by omega)) (fun v79 w79 p79 => ?_)
   obtain ⟨s279, rfl, os2_79, c79⟩ := p79
   have zw79 := c79.size
   have s80 : Chg 0 0 w23 w79 := (((d39.t c41).t cb73).t c79)
   refine wl_nil ?_
   refine dx_next s80 ?_
   refine dx_eff 5 rfl (by kernel_rfl) ?_
   have f81 := os_41.ext cb73
   have f82 := f81.ext c79
   refine sx_call rfl rfl Tryz.call24 (c_sNeeded (f82).toS os2_79.sv (by omega) (fun i hi => Nat.le_trans (hzs (by omega) i hi) (by omega)) (by omega)) (fun v83 w83 p83 => ?_)
   obtain ⟨s83, rfl, os_83, hl83, c83⟩ := p83
   have zw83 := c83.size
   have s84 : Chg 0 0 w23 w83 := ((((d39.t c41).t cb73).t c79).t c83)
   refine wl_nil ?_
   refine dx_next s84 ?_
   refine dt 6 rfl rfl rfl rfl s84 (fun _ hS => px_move rfl) ?_
   refine dt 7 rfl rfl rfl rfl s84 (fun _ hS => px_ex2 rfl rfl) ?_
   refine dt 8 rfl rfl rfl rfl s84 (fun _ hS => px_ex2 rfl rfl) ?_
   refine dx_eff 10 rfl (by kernel_rfl) ?_
   have f87 := (fb73.ext c79).ext c83
   refine sx_store (vs := [.string ((need pv ts c1 n1 z1 fo).1), .bool ((need pv ts c1 n1 z1 fo).2.1), s83]) rfl rfl f87 rfl Tryz.sizeOf48 (nbl rfl) (one_cons rfl (one_cons rfl (one_cons os_83.one one_nil))) (fun w85 sw85 fw85 cw85 => ?_)
   have zw85 := cw85.size
   have gw85 : Blk w85 b73 [.string ((need pv ts c1 n1 z1 fo).1), .bool ((need pv ts c1 n1 z1 fo).2.1), s83] 48 := fw85
   have q89 := Chg.step (l := 0) (h := 0) (Chg.zero (l := 0) (h := 0) ((((d39.t c41).t cb73).t c79).t c83)) cw85 (by omega)
   have s88 : Chg 0 0 w23 w85 := q89
   refine wl_nil ?_
   refine dx_next s88 ?_
   refine dt 11 rfl rfl rfl rfl s88 (fun _ hS => px_assign rfl) ?_
   refine dx_done (by kernel_rfl) ?_
   have f90 := os_83.chg cw85 (by omega)
   have q91 := Chg.step (l := 0) (h := 0) (Chg.zero (l := 0) (h := 0) ((((d39.t c41).t cb73).t c79).t c83)) cw85 (by omega)
   exact q_n (kw_sub (Sub.c 2 rfl (.c 3 rfl (.c 4 rfl (.c 6 rfl (.c 8 rfl (.c 9 rfl .nil)))))) (kc28 _ _ ⟨b73, s83, w79.heap.size, w83.heap.size, rfl, q91, gw85, f90, by omega, by omega, by omega⟩))
  refine sx_alloc [.string (⟨#[]⟩), .bool false, (.slice none 0 0)] rfl Tryz.zeroValue48 rfl (fun b92 w93 eb92 sb92 fb92 cb92 => ?_)
  have zw93 := cb92.size
  have s94 : Chg 0 0 w23 w93 := (d39.t cb92)
  refine wl_nil ?_
  refine dx_next s94 ?_
  refine dx_eff 1 rfl (by kernel_rfl) ?_
  have f96 := (f37.ext d39).ext cb92
  refine sx_call rfl rfl Tryz.call9 (c_toRates f96 (by omega) (hzs (by omega))) (fun v97 w97 p97 => ?_)
  obtain ⟨s97, us97, rfl, os_97, c97⟩ := p97
  have zw97 := c97.size
  have s98 : Chg 0 0 w23 w97 := ((d39.t cb92).t c97)
  refine wl_nil ?_
  refine dx_next s98 ?_
  refine dx_eff 3 rfl (by kernel_rfl) ?_
  have f100 := (f38.ext d39).ext cb92
  have f101 := f100.ext c97
  refine sx_call rfl rfl Tryz.call20 (c_toMoney f101 (by omega)) (fun v102 w102 p102 => ?_)
  obtain ⟨s2102, rfl, os2_102, c102⟩ := p102
  have zw102 := c102.size
  have s103 : Chg 0 0 w23 w102 := (((d39.t cb92).t c97).t c102)
  refine wl_nil ?_
  refine dx_next s103 ?_
  refine dx_eff 5 rfl (by kernel_rfl) ?_
  have f104 := os_97.ext c102
  refine sx_call rfl rfl Tryz.call24 (c_sNeeded (f104).toS os2_102.sv (by omega) (fun i hi => Nat.le_trans (hzs (by omega) i hi) (by omega)) (by omega)) (fun v105 w105 p105 => ?_)
  obtain ⟨s105, rfl, os_105, hl105, c105⟩ := p105
  have zw105 := c105.size
  have s106 : Chg 0 0 w23 w105 := ((((d39.t cb92).t c97).t c102).t c105)
  refine wl_nil ?_
  refine dx_next s106 ?_
  refine dt 6 rfl rfl rfl rfl s106 (fun _ hS => px_move rfl) ?_
  refine dt 7 rfl rfl rfl rfl s106 (fun _ hS => px_ex2 rfl rfl) ?_
  refine dt 8 rfl rfl rfl rfl s106 (fun _ hS => px_ex2 rfl rfl) ?_
  refine dx_eff 10 rfl (by kernel_rfl) ?_
  have f110 := ((fb92.ext c97).ext c102).ext c105
  refine sx_store (vs := [.string ((need pv ts c1 n1 z1 fo).1), .bool ((need pv ts c1 n1 z1 fo).2.1), s105]) rfl rfl f110 rfl Tryz.sizeOf48 (nbl rfl) (one_cons rfl (one_cons rfl (one_cons os_105.one one_nil))) (fun w107 sw107 fw107 cw107 => ?_)
  have zw107 := cw107.size
  have gw107 : Blk w107 b92 [.string ((need pv ts c1 n1 z1 fo).1), .bool ((need pv ts c1 n1 z1 fo).2.1), s105] 48 := fw107
  have q112 := Chg.step (l := 0) (h := 0) (Chg.zero (l := 0) (h := 0) ((((d39.t cb92).t c97).t c102).t c105)) cw107 (by omega)
  have s111 : Chg 0 0 w23 w107 := q112
  refine wl_nil ?_
  refine dx_next s111 ?_
  refine dt 11 rfl rfl rfl rfl s111 (fun _ hS => px_assign rfl) ?_
  refine dx_done (by kernel_rfl) ?_
  have f113 := os_105.chg cw107 (by omega)
  have q114 := Chg.step (l := 0) (h := 0) (Chg.zero (l := 0) (h := 0) ((((d39.t cb92).t c97).t c102).t c105)) cw107 (by omega)
  exact q_n (kw_sub (Sub.c 2 rfl (.c 3 rfl (.c 4 rfl (.c 6 rfl (.c 8 rfl (.c 9 rfl .nil)))))) (kc28 _ _ ⟨b92, s105, w102.heap.size, w105.heap.size, rfl, q114, gw107, f113, by omega, by omega, by omega⟩))
 rintro fr w'28 ⟨gb28x0, gs28x1, gl28x1, gu28x1, rfl, cw'28, xgb28x0, xgs28x1, ygb28x0, ygl28x1, dgl28x1xgb28x0⟩
 have zw'28 := cw'28.size
 refine sx_seq fun K115 k115 => sx_region ?_
 have f118 := ((f11.ext c14).ext c23).ext cw'28
 refine sp rfl (px_load rfl (f118.loadA (vs := [.string pv, vt]) (look_lit rfl) Tryz.isAgg24 Tryz.sizeOf24)) ?_
 have f121 := ((f13.ext c14).ext c23).ext cw'28
 refine sx_call rfl rfl Tryz.call9 (c_toRates f121 (by omega) (hzs (by omega))) (fun v122 w122 p122 => ?_)
 obtain ⟨s122, us122, rfl, os_122, c122⟩ := p122
 have zw122 := c122.size
 refine sx_alloc [.string (⟨#[]⟩), (.slice none 0 0)] rfl Tryz.zeroValue35 rfl (fun b123 w124 eb123 sb123 fb123 cb123 => ?_)
 have zw124 := cb123.size
 have f126 := os_122.ext cb123
 refine sx_store (vs := [.string pv, s122]) rfl rfl fb123 rfl Tryz.sizeOf35 (nbl rfl) (one_cons rfl (one_cons (f126).toS.one one_nil)) (fun w125 sw125 fw125 cw125 => ?_)
 have zw125 := cw125.size
 have gw125 : Blk w125 b123 [.string pv, s122] 35 := fw125
 refine wl_nil (q_n (k115 _ _ ?_))
 refine sx_seq fun K127 k127 => sx_region ?_
 have f129 := (f19.ext c23).ext cw'28
 have f131 := (f129.ext c122).ext cb123
 have f132 := f131.chg cw125 (by omega)
 refine sp rfl (px_load rfl (f132.loadA (vs := [.string c1, .bool n1, v1]) (look_lit rfl) Tryz.isAgg44 Tryz.sizeOf44)) ?_
 have f134 := (f22.ext c23).ext cw'28
 have f136 := (f134.ext c122).ext cb123
 have f137 := f136.chg cw125 (by omega)
 refine sx_call rfl rfl Tryz.call20 (c_toMoney f137 (by omega)) (fun v138 w138 p138 => ?_)
 obtain ⟨s2138, rfl, os2_138, c138⟩ := p138
 have zw138 := c138.size
 refine sx_alloc [.string (⟨#[]⟩), .bool false, (.slice none 0 0)] rfl Tryz.zeroValue48 rfl (fun b139 w140 eb139 sb139 fb139 cb139 => ?_)
 have zw140 := cb139.size
 have f142 := os2_138.ext cb139
 refine sx_store (vs := [.string c1, .bool n1, s2138]) rfl rfl fb139 rfl Tryz.sizeOf48 (nbl rfl) (one_cons rfl (one_cons rfl (one_cons f142.one one_nil))) (fun w141 sw141 fw141 cw141 => ?_)
 have zw141 := cw141.size
 have gw141 : Blk w141 b139 [.string c1, .bool n1, s2138] 48 := fw141
 refine wl_nil (q_n (k127 _ _ ?_))
 refine sx_seq fun K143 k143 => sx_region ?_
 have f145 := (gw125.ext c138).ext cb139
 have f146 := f145.chg cw141 (by omega)
 refine sp rfl (px_load rfl (f146.loadA (vs := [.string pv, s122]) (look_lit rfl) Tryz.isAgg35 Tryz.sizeOf35)) ?_
 refine sp rfl (px_load rfl (gw141.loadA (vs := [.string c1, .bool n1, s2138]) (look_lit rfl) Tryz.isAgg48 Tryz.sizeOf48)) ?_
 refine mv rfl rfl ?_
 have f147 := hG0.ext cb2
 have f148 := f147.ext cb4
 have f151 := ((f148.ext c14).ext c23).ext cw'28
 have f153 := (f151.ext c122).ext cb123
 have f154 := f153.chg cw125 (by omega)
 have f156 := (f154.ext c138).ext cb139
 have f157 := f156.chg cw141 (by omega)
 have f158 := f126.chg cw125 (by omega)
 have f160 := (f158.ext c138).ext cb139
 have f161 := f160.chg cw141 (by omega)
 have f162 := f142.chg cw141 (by omega)
 refine sx_call rfl rfl Tryz.call25 (c_iNeeded f157 (f161).toS f162.sv (by omega) (fun i hi => Nat.le_trans (hzs (by omega) i hi) (by omega)) (by omega)) (fun v163 w163 p163 => ?_)
 obtain ⟨s163, rfl, os_163, hl163, c163⟩ := p163
 have zw163 := c163.size
 refine mv rfl rfl (sp rfl (px_ex2 rfl rfl) ?_)
 refine sp rfl (px_ex2 rfl rfl) ?_
 refine sx_alloc [.string (⟨#[]⟩), .bool false, (.slice none 0 0)] rfl Tryz.zeroValue48 rfl (fun b164 w165 eb164 sb164 fb164 cb164 => ?_)
 have zw165 := cb164.size
 have f167 := os_163.ext cb164
 refine sx_store (vs := [.string ((need pv ts c1 n1 z1 fo).1), .bool ((need pv ts c1 n1 z1 fo).2.1), s163]) rfl rfl fb164 rfl Tryz.sizeOf48 (nbl rfl) (one_cons rfl (one_cons rfl (one_cons f167.one one_nil))) (fun w166 sw166 fw166 cw166 => ?_)
 have zw166 := cw166.size
 have gw166 : Blk w166 b164 [.string ((need pv ts c1 n1 z1 fo).1), .bool ((need pv ts c1 n1 z1 fo).2.1), s163] 48 := fw166
 refine av rfl rfl (wl_nil (q_n (k143 _ _ ?_)))
 refine sx_sub (Sub.c 2 rfl (.c 3 rfl (.c 4 rfl (.c 6 rfl (.c 8 rfl (.c 9 rfl (.c 10 rfl (.c 11 rfl (.c 12 rfl (.c 13 rfl .nil)))))))))) ?_
 refine sx_seq fun K168 k168 => ?_
 refine sx_seq fun K169 k169 => sx_region ?_
 refine sp rfl (px_load rfl (gw166.loadA (vs := [.string ((need pv ts c1 n1 z1 fo).1), .bool ((need pv ts c1 n1 z1 fo).2.1), s163]) (look_lit rfl) Tryz.isAgg48 Tryz.sizeOf48)) ?_
 have f171 := (xgb28x0.ext c122).ext cb123
 have f172 := f171.chg cw125 (by omega)
 have f174 := (f172.ext c138).ext cb139
 have f175 := f174.chg cw141 (by omega)
 have f177 := (f175.ext c163).ext cb164
 have f178 := f177.chg cw166 (by omega)
 refine sp rfl (px_load rfl (f178.loadA (vs := [.string ((need pv ts c1 n1 z1 fo).1), .bool ((need pv ts c1 n1 z1 fo).2.1), gs28x1]) (look_lit rfl) Tryz.isAgg48 Tryz.sizeOf48)) ?_
 have f179 := f167.chg cw166 (by omega)
 have f181 := (xgs28x1.ext c122).ext cb123
 have f182 := f181.chg cw125 (by omega)
 have f184 := (f182.ext c138).ext cb139
 have f185 := f184.chg cw141 (by omega)
 have f187 := (f185.ext c163).ext cb164
 have f188 := f187.chg cw166 (by omega)
 refine sx_call rfl rfl Tryz.call22 (c_eqMoney f179.sv f188.sv (by omega)) (fun v189 w189 p189 => ?_)
 obtain ⟨rfl, c189⟩ := p189
 have zw189 := c189.size
 refine sp rfl (px_notP rfl) ?_
 refine mv rfl rfl ?_
 have h5865 : ¬ (¬ (((need pv ts c1 n1 z1 fo).1) = ((need pv ts c1 n1 z1 fo).1) ∧ ((need pv ts c1 n1 z1 fo).2.1) = ((need pv ts c1 n1 z1 fo).2.1) ∧ ((need pv ts c1 n1 z1 fo).2.2.1) = ((need pv ts c1 n1 z1 fo).2.2.1))) := by simp [mk_length]
 refine sx_tmpPF (t := 56) rfl h5865 ?_
 refine sx_guardT rfl rfl rfl ?_
 refine mv rfl rfl ?_
 refine sx_guardT rfl rfl rfl ?_
 refine mv rfl rfl ?_
 refine sx_guardT rfl rfl rfl ?_
 refine sp rfl (px_neB Tryz.underlying4 rfl rfl) ?_
 refine sp rfl (px_pick rfl rfl) ?_
 refine wl_nil (q_n (k169 _ _ ?_))
 refine sx_sub (Sub.c 2 rfl (.c 3 rfl (.c 4 rfl (.c 6 rfl (.c 8 rfl (.c 9 rfl (.c 10 rfl (.c 11 rfl (.c 12 rfl (.c 13 rfl (.c 60 rfl .nil))))))))))) ?_
 have h5865x1 : (((need pv ts c1 n1 z1 fo).2.2.2) != ((need pv ts c1 n1 z1 fo).2.2.2)) = false := by simp [mk_length]
 refine sx_condBF rfl h5865x1 ?_
 refine sx_skip ?_
 refine q_n (k168 _ _ ?_)
 refine sx_seq fun K190 k190 => ?_
 refine sx_seq fun K191 k191 => ?_
 have f193 := (f157.ext c163).ext cb164
 have f194 := f193.chg cw166 (by omega)
 have f197 := (f118.ext c122).ext cb123
 have f198 := f197.chg cw125 (by omega)
 have f200 := (f198.ext c138).ext cb139
 have f201 := f200.chg cw141 (by omega)
 have f203 := (f201.ext c163).ext cb164
 have f204 := f203.chg cw166 (by omega)
 have f205 := f204.ext c189
 have f207 := (f132.ext c138).ext cb139
 have f208 := f207.chg cw141 (by omega)
 have f210 := (f208.ext c163).ext cb164
 have f211 := f210.chg cw166 (by omega)
 have f215 := (f146.ext c163).ext cb164
 have f216 := f215.chg cw166 (by omega)
 have f217 := f216.ext c189
 have f219 := (gw141.ext c163).ext cb164
 have f220 := f219.chg cw166 (by omega)
 have f224 := (f121.ext c122).ext cb123
 have f225 := f224.chg cw125 (by omega)
 have f227 := (f225.ext c138).ext cb139
 have f228 := f227.chg cw141 (by omega)
 have f230 := (f228.ext c163).ext cb164
 have f231 := f230.chg cw166 (by omega)
 have f234 := (f137.ext c138).ext cb139
 have f235 := f234.chg cw141 (by omega)
 have f237 := (f235.ext c163).ext cb164
 have f238 := f237.chg cw166 (by omega)
 have f242 := (f161.ext c163).ext cb164
 have f243 := f242.chg cw166 (by omega)
 have f246 := (f162.ext c163).ext cb164
 have f247 := f246.chg cw166 (by omega)
 refine dx_region (fun w' => Chg 0 0 w189 w') (by kernel_rfl) (Chg.zero (Chg.drew _)) ?_
 have d250 := Chg.drew w189
 have s250 : Chg 0 0 w189 (World.drew w189) := Chg.zero (Chg.drew _)
 have y250 : (World.drew w189).heap.size = w189.heap.size := rfl
 generalize World.drew w189 = w250 at *
 have zw250 := d250.size
 refine dt 0 rfl rfl rfl rfl s250 (fun _ hS => px_load rfl ((f217.chg hS (by omega)).loadA (vs := [.string pv, s122]) (look_lit rfl) Tryz.isAgg35 Tryz.sizeOf35)) ?_
 refine dt 1 rfl rfl rfl rfl s250 (fun _ hS => px_load rfl ((f205.chg hS (by omega)).loadA (vs := [.string pv, vt]) (look_lit rfl) Tryz.isAgg24 Tryz.sizeOf24)) ?_
 refine dx_eff 2 rfl (by kernel_rfl) ?_
 have f251 := (f231.ext c189).ext d250
 refine sx_call rfl rfl Tryz.call9 (c_toRates f251 (by omega) (hzs (by omega))) (fun v252 w252 p252 => ?_)
 obtain ⟨s252, us252, rfl, os_252, c252⟩ := p252
 have zw252 := c252.size
 have s253 : Chg 0 0 w189 w252 := (d250.t c252)
 refine wl_nil ?_
 refine dx_next s253 ?_
 refine dx_eff 3 rfl (by kernel_rfl) ?_
 have f255 := ((f243.ext c189).ext d250).ext c252
 refine sx_call rfl rfl Tryz.call12 (c_eqRates (f255).toS (os_252).toS (by omega) (hzs (by omega)) (hzs (by omega))) (fun v256 w256 p256 => ?_)
 obtain ⟨rfl, c256⟩ := p256
 have zw256 := c256.size
 have s257 : Chg 0 0 w189 w256 := ((d250.t c252).t c256)
 refine wl_nil ?_
 refine dx_next s257 ?_
 refine dt 4 rfl rfl rfl rfl s257 (fun _ hS => px_notP rfl) ?_
 refine dx_done (by kernel_rfl) ?_
 refine q_n (k191 _ _ ?_)
 refine sx_sub (Sub.c 2 rfl (.c 3 rfl (.c 4 rfl (.c 6 rfl (.c 8 rfl (.c 9 rfl (.c 10 rfl (.c 11 rfl (.c 12 rfl (.c 13 rfl (.c 65 rfl .nil))))))))))) ?_
 have h5868 : ¬ (¬ (pv = pv ∧ ts = ts)) := by simp [mk_length]
 refine sx_condPF rfl h5868 ?_
 refine sx_skip ?_
 refine q_n (k190 _ _ ?_)
 refine sx_seq fun K258 k258 => ?_
 refine sx_seq fun K259 k259 => ?_
 have f268 := (((f211.ext c189).ext d250).ext c252).ext c256
 have f277 := (((f220.ext c189).ext d250).ext c252).ext c256
 refine dx_region (fun w' => Chg 0 0 w256 w') (by kernel_rfl) (Chg.zero (Chg.drew _)) ?_
 have d297 := Chg.drew w256
 have s297 : Chg 0 0 w256 (World.drew w256) := Chg.zero (Chg.drew _)
 have y297 : (World.drew w256).heap.size = w256.heap.size := rfl
 generalize World.drew w256 = w297 at *
 have zw297 := d297.size
 refine dt 0 rfl rfl rfl rfl s297 (fun _ hS => px_load rfl ((f277.chg hS (by omega)).loadA (vs := [.string c1, .bool n1, s2138]) (look_lit rfl) Tryz.isAgg48 Tryz.sizeOf48)) ?_
 refine dt 1 rfl rfl rfl rfl s297 (fun _ hS => px_load rfl ((f268.chg hS (by omega)).loadA (vs := [.string c1, .bool n1, v1]) (look_lit rfl) Tryz.isAgg44 Tryz.sizeOf44)) ?_
 refine dx_eff 2 rfl (by kernel_rfl) ?_
 have f298 := ((((f238.ext c189).ext d250).ext c252).ext c256).ext d297
 refine sx_call rfl rfl Tryz.call20 (c_toMoney f298 (by omega)) (fun v299 w299 p299 => ?_)
 obtain ⟨s2299, rfl, os2_299, c299⟩ := p299
 have zw299 := c299.size
 have s300 : Chg 0 0 w256 w299 := (d297.t c299)
 refine wl_nil ?_
 refine dx_next s300 ?_
 refine dx_eff 3 rfl (by kernel_rfl) ?_
 have f302 := (((((f247.ext c189).ext d250).ext c252).ext c256).ext d297).ext c299
 refine sx_call rfl rfl Tryz.call22 (c_eqMoney f302.sv os2_299.sv (by omega)) (fun v303 w303 p303 => ?_)
 obtain ⟨rfl, c303⟩ := p303
 have zw303 := c303.size
 have s304 : Chg 0 0 w256 w303 := ((d297.t c299).t c303)
 refine wl_nil ?_
 refine dx_next s304 ?_
 refine dt 4 rfl rfl rfl rfl s304 (fun _ hS => px_notP rfl) ?_
 refine dx_done (by kernel_rfl) ?_
 refine q_n (k259 _ _ ?_)
 refine sx_sub (Sub.c 2 rfl (.c 3 rfl (.c 4 rfl (.c 6 rfl (.c 8 rfl (.c 9 rfl (.c 10 rfl (.c 11 rfl (.c 12 rfl (.c 13 rfl (.c 70 rfl .nil))))))))))) ?_
 have h5871 : ¬ (¬ (c1 = c1 ∧ n1 = n1 ∧ z1 = z1)) := by simp [mk_length]
 refine sx_condPF rfl h5871 ?_
 refine sx_skip ?_
 refine q_n (k258 _ _ ?_)
 refine sx_seq fun K305 k305 => sx_region ?_
 refine av rfl rfl (wl_nil (q_n (k305 _ _ ?_)))
 refine sx_seq fun K306 k306 => sx_region ?_
 have f309 := (((((f217.ext d250).ext c252).ext c256).ext d297).ext c299).ext c303
 refine sp rfl (px_load rfl (f309.loadA (vs := [.string pv, s122]) (look_lit rfl) Tryz.isAgg35 Tryz.sizeOf35)) ?_
 refine mv rfl rfl ?_
 have f312 := (((f255.ext c256).ext d297).ext c299).ext c303
 refine sx_call rfl rfl Tryz.call13 (c_markRates f312 (by omega) (hzs (by omega)) (by omega) (by omega)) (fun v313 w313 p313 => ?_)
 obtain ⟨ks313, rfl, hk313, c313⟩ := p313
 have zw313 := c313.size
 refine av rfl rfl (wl_nil (q_n (k306 _ _ ?_)))
 refine sx_sub (Sub.c 2 rfl (.c 3 rfl (.c 4 rfl (.c 6 rfl (.c 8 rfl (.c 9 rfl (.c 11 rfl (.c 12 rfl (.c 13 rfl (.c 14 rfl .nil)))))))))) ?_
 refine sx_seq fun K314 k314 => sx_region ?_
 have f318 := (((f277.ext d297).ext c299).ext c303).chg c313 (by omega)
 refine sp rfl (px_load rfl (f318.loadA (vs := [.string c1, .bool n1, s2138]) (look_lit rfl) Tryz.isAgg48 Tryz.sizeOf48)) ?_
 refine mv rfl rfl ?_
 have f320 := (f302.ext c303).chg c313 (by omega)
 refine sx_call rfl rfl Tryz.call23 (c_markMoney f320 (by omega) (by omega)) (fun v321 w321 p321 => ?_)
 obtain ⟨rfl, ov1_321, c321⟩ := p321
 have zw321 := c321.size
 refine av rfl rfl (wl_nil (q_n (k314 _ _ ?_)))
 refine sx_seq fun K322 k322 => ?_
 refine sx_seq fun K323 k323 => sx_region ?_
 refine mv rfl rfl (sp rfl (px_lt rfl rfl) ?_)
 refine mv rfl rfl ?_
 have h5877 : ¬ ((((1 : Int) + ↑((ks313 : List Int)).length) + ↑(z1).length : Int) < 0) := by omega
 refine sx_tmpPF (t := 79) rfl h5877 ?_
 refine sx_guardT rfl rfl rfl ?_
 have f328 := ((((((((gw166.ext c189).ext d250).ext c252).ext c256).ext d297).ext c299).ext c303).chg c313 (by omega)).chg c321 (by omega)
 refine sp rfl (px_load rfl (f328.loadA (vs := [.string ((need pv ts c1 n1 z1 fo).1), .bool ((need pv ts c1 n1 z1 fo).2.1), s163]) (look_lit rfl) Tryz.isAgg48 Tryz.sizeOf48)) ?_
 refine sx_guardT rfl rfl rfl ?_
 have f333 := ((((((((f178.ext c189).ext d250).ext c252).ext c256).ext d297).ext c299).ext c303).chg c313 (by omega)).chg c321 (by omega)
 refine sp rfl (px_load rfl (f333.loadA (vs := [.string ((need pv ts c1 n1 z1 fo).1), .bool ((need pv ts c1 n1 z1 fo).2.1), gs28x1]) (look_lit rfl) Tryz.isAgg48 Tryz.sizeOf48)) ?_
 refine sx_guardT rfl rfl rfl ?_
 have f338 := ((((((((f179.ext c189).ext d250).ext c252).ext c256).ext d297).ext c299).ext c303).chg c313 (by omega)).chg c321 (by omega)
 have f343 := ((((((((f188.ext c189).ext d250).ext c252).ext c256).ext d297).ext c299).ext c303).chg c313 (by omega)).chg c321 (by omega)
 refine sx_call rfl rfl Tryz.call22 (c_eqMoney f338.sv f343.sv (by omega)) (fun v344 w344 p344 => ?_)
 obtain ⟨rfl, c344⟩ := p344
 have zw344 := c344.size
 refine sx_guardT rfl rfl rfl ?_
 refine sp rfl (px_notP rfl) ?_
 refine sp rfl (px_pick rfl rfl) ?_
 refine mv rfl rfl ?_
 have h5877x1 : ¬ (¬ (((need pv ts c1 n1 z1 fo).1) = ((need pv ts c1 n1 z1 fo).1) ∧ ((need pv ts c1 n1 z1 fo).2.1) = ((need pv ts c1 n1 z1 fo).2.1) ∧ ((need pv ts c1 n1 z1 fo).2.2.1) = ((need pv ts c1 n1 z1 fo).2.2.1))) := by simp [mk_length]
 refine sx_tmpPF (t := 85) rfl h5877x1 ?_
 refine sx_guardT rfl rfl rfl ?_
 refine mv rfl rfl ?_
 refine sx_guardT rfl rfl rfl ?_
 refine mv rfl rfl ?_
 refine sx_guardT rfl rfl rfl ?_
 refine sp rfl (px_neB Tryz.underlying4 rfl rfl) ?_
 refine sp rfl (px_pick rfl rfl) ?_
 refine wl_nil (q_n (k323 _ _ ?_))
 refine sx_sub (Sub.c 2 rfl (.c 3 rfl (.c 4 rfl (.c 6 rfl (.c 8 rfl (.c 9 rfl (.c 12 rfl (.c 89 rfl .nil)))))))) ?_
 have h5877x2 : (((need pv ts c1 n1 z1 fo).2.2.2) != ((need pv ts c1 n1 z1 fo).2.2.2)) = false := by simp [mk_length]
 refine sx_condBF rfl h5877x2 ?_
 refine sx_skip ?_
 refine q_n (k322 _ _ ?_)
 refine sx_seq fun K345 k345 => sx_region ?_
 refine av rfl rfl (wl_nil (q_n (k345 _ _ ?_)))
 refine sx_seq fun K346 k346 => sx_region ?_
 have f347 := f328.ext c344
 refine sp rfl (px_load rfl (f347.loadA (vs := [.string ((need pv ts c1 n1 z1 fo).1), .bool ((need pv ts c1 n1 z1 fo).2.1), s163]) (look_lit rfl) Tryz.isAgg48 Tryz.sizeOf48)) ?_
 refine mv rfl rfl ?_
 have f348 := f338.ext c344
 refine sx_call rfl rfl Tryz.call23 (c_markMoney f348 (by omega) (by omega)) (fun v349 w349 p349 => ?_)
 obtain ⟨rfl, ov1_349, c349⟩ := p349
 have zw349 := c349.size
 refine av rfl rfl (wl_nil (q_n (k346 _ _ ?_)))
 refine sx_seq fun K350 k350 => sx_region ?_
 refine av rfl rfl (wl_nil (q_n (k350 _ _ ?_)))
 refine sx_seq fun K351 k351 => sx_region ?_
 have f352 := f347.chg c349 (by omega)
 refine sp rfl (px_load rfl (f352.loadA (vs := [.string ((need pv ts c1 n1 z1 fo).1), .bool ((need pv ts c1 n1 z1 fo).2.1), s163]) (look_lit rfl) Tryz.isAgg48 Tryz.sizeOf48)) ?_
 refine mv rfl rfl (sx_call rfl rfl Tryz.call26 (c_heldMoney ov1_349.sv (by first | omega | (simp only [mk_length]; omega)) (by omega) (by first | assumption | simp [mk_length])) (fun v353 w353 p353 => ?_))
 obtain ⟨rfl, c353⟩ := p353
 have zw353 := c353.size
 refine av rfl rfl (wl_nil (q_n (k351 _ _ ?_)))
 refine sx_sub (Sub.c 2 rfl (.c 3 rfl (.c 4 rfl (.c 6 rfl (.c 8 rfl (.c 9 rfl (.c 12 rfl (.c 15 rfl (.c 16 rfl .nil))))))))) ?_
 refine sx_seq fun K354 k354 => ?_
 refine sx_seq fun K355 k355 => sx_region ?_
 refine mv rfl rfl (sp rfl (px_lt rfl rfl) ?_)
 refine wl_nil (q_n (k355 _ _ ?_))
 have h5884 : ¬ (((1 : Int) + ↑((mk (1 : Int) (((need pv ts c1 n1 z1 fo).2.2.1)).length)).length : Int) < 0) := by omega
 refine sx_condPF rfl h5884 ?_
 refine sx_skip ?_
 refine q_n (k354 _ _ ?_)
 refine sx_seq fun K356 k356 => ?_
 refine sx_seq fun K357 k357 => sx_region ?_
 refine mv rfl rfl (mv rfl rfl (sp rfl (px_ne rfl rfl) ?_))
 refine wl_nil (q_n (k357 _ _ ?_))
 have h5887 : ¬ (((1 : Int) + ↑((mk (1 : Int) (((need pv ts c1 n1 z1 fo).2.2.1)).length)).length : Int) ≠ (1 : Int) + ↑(((need pv ts c1 n1 z1 fo).2.2.1)).length) := by simp [mk_length]
 refine sx_condPF rfl h5887 ?_
 refine sx_skip ?_
 refine q_n (k356 _ _ ?_)
 refine sx_seq fun K358 k358 => ?_
 refine sx_cut k358 (fun fr w' => ∃ (gb359x0 : Nat) (gs359x1 : Value) (gl359x1 : Nat) (gu359x1 : Nat), fr = [(6, .bool false), (8, .pointer (some ⟨gb28x0, 0, none⟩)), (9, .bool ((need pv ts c1 n1 z1 fo).2.2.2)), (12, .pointer (some ⟨b164, 0, none⟩)), (15, .int .i64 ((1 : Int) + ↑(((need pv ts c1 n1 z1 fo).2.2.1)).length)), (16, .int .i64 ((1 : Int) + ↑((mk (1 : Int) (((need pv ts c1 n1 z1 fo).2.2.1)).length)).length)), (17, .pointer (some ⟨gb359x0, 0, none⟩)), (18, .bool ((need pv ts c1 n1 z1 fo).2.2.2))] ∧ Chg 0 0 w353 w' ∧ (Blk w' gb359x0 [.string ((need pv ts c1 n1 z1 fo).1), .bool ((need pv ts c1 n1 z1 fo).2.1), gs359x1] 48) ∧ (Own w' gl359x1 gu359x1 gs359x1 intT (((need pv ts c1 n1 z1 fo).2.2.1).length) 1 (((need pv ts c1 n1 z1 fo).2.2.1).map (Value.int .i64))) ∧ (w353.heap.size ≤ gb359x0 ∧ gb359x0 + 1 ≤ w'.heap.size) ∧ (w353.heap.size ≤ gl359x1 ∧ gu359x1 ≤ w'.heap.size) ∧ (gu359x1 ≤ gb359x0 ∨ gb359x0 + 1 ≤ gl359x1)) (fun kc359 => ?_) ?_
 ·
  have f367 := (((((((((((f194.ext c189).ext d250).ext c252).ext c256).ext d297).ext c299).ext c303).chg c313 (by omega)).chg c321 (by omega)).ext c344).chg c349 (by omega)).ext c353
  have f375 := ((((((((((f205.ext d250).ext c252).ext c256).ext d297).ext c299).ext c303).chg c313 (by omega)).chg c321 (by omega)).ext c344).chg c349 (by omega)).ext c353
  have f383 := (((((((f268.ext d297).ext c299).ext c303).chg c313 (by omega)).chg c321 (by omega)).ext c344).chg c349 (by omega)).ext c353
  have f386 := ((f333.ext c344).chg c349 (by omega)).ext c353
  have f391 := ((((f309.chg c313 (by omega)).chg c321 (by omega)).ext c344).chg c349 (by omega)).ext c353
  have f395 := (((f318.chg c321 (by omega)).ext c344).chg c349 (by omega)).ext c353
  have f396 := f352.ext c353
  have f404 := (((((((((f251.ext c252).ext c256).ext d297).ext c299).ext c303).chg c313 (by omega)).chg c321 (by omega)).ext c344).chg c349 (by omega)).ext c353
  have f411 := ((((((f298.ext c299).ext c303).chg c313 (by omega)).chg c321 (by omega)).ext c344).chg c349 (by omega)).ext c353
  have f414 := ((f343.ext c344).chg c349 (by omega)).ext c353
  have f417 := ((ov1_321.ext c344).chg c349 (by omega)).ext c353
  have f418 := ov1_349.ext c353
  have f426 := ((((((((os_252.ext c256).ext d297).ext c299).ext c303).chg c313 (by omega)).chg c321 (by omega)).ext c344).chg c349 (by omega)).ext c353
  have f432 := (((((os2_299.ext c303).chg c313 (by omega)).chg c321 (by omega)).ext c344).chg c349 (by omega)).ext c353
  refine dx_region (fun w' => Chg 0 0 w353 w') (by kernel_rfl) (Chg.zero (Chg.drew _)) ?_
  have d433 := Chg.drew w353
  have s433 : Chg 0 0 w353 (World.drew w353) := Chg.zero (Chg.drew _)
  have y433 : (World.drew w353).heap.size = w353.heap.size := rfl
  generalize World.drew w353 = w433 at *
  have zw433 := d433.size
  refine dt 0 rfl rfl rfl rfl s433 (fun _ hS => px_load rfl ((f375.chg hS (by omega)).loadA (vs := [.string pv, vt]) (look_lit rfl) Tryz.isAgg24 Tryz.sizeOf24)) ?_
  refine dt 2 rfl rfl rfl rfl s433 (fun _ hS => px_load rfl ((f383.chg hS (by omega)).loadA (vs := [.string c1, .bool n1, v1]) (look_lit rfl) Tryz.isAgg44 Tryz.sizeOf44)) ?_
  refine dt 4 rfl rfl rfl rfl s433 (fun _ hS => px_move rfl) ?_
  refine dx_eff2 1 9 rfl rfl (by kernel_rfl) ?_ ?_
  ·
   have f434 := f404.ext d433
   refine sx_call rfl rfl Tryz.call9 (c_toRates f434 (by omega) (hzs (by omega))) (fun v435 w435 p435 => ?_)
   obtain ⟨s435, us435, rfl, os_435, c435⟩ := p435
   have zw435 := c435.size
   have s436 : Chg 0 0 w353 w435 := (d433.t c435)
   refine wl_nil ?_
   refine dx_next s436 ?_
   refine dx_eff2 3 9 rfl rfl (by kernel_rfl) ?_ ?_
   ·
    have f438 := (f411.ext d433).ext c435
    refine sx_call rfl rfl Tryz.call20 (c_toMoney f438 (by omega)) (fun v439 w439 p439 => ?_)
    obtain ⟨s2439, rfl, os2_439, c439⟩ := p439
    have zw439 := c439.size
    have s440 : Chg 0 0 w353 w439 := ((d433.t c435).t c439)
    refine wl_nil ?_
    refine dx_next s440 ?_
    refine dx_eff2 5 9 rfl rfl (by kernel_rfl) ?_ ?_
    ·
     have f443 := ((f367.ext d433).ext c435).ext c439
     have f444 := os_435.ext c439
     refine sx_call rfl rfl Tryz.call25 (c_iNeeded f443 (f444).toS os2_439.sv (by omega) (fun i hi => Nat.le_trans (hzs (by omega) i hi) (by omega)) (by omega)) (fun v445 w445 p445 => ?_)
     obtain ⟨s445, rfl, os_445, hl445, c445⟩ := p445
     have zw445 := c445.size
     have s446 : Chg 0 0 w353 w445 := (((d433.t c435).t c439).t c445)
     refine wl_nil ?_
     refine dx_next s446 ?_
     refine dt 6 rfl rfl rfl rfl s446 (fun _ hS => px_move rfl) ?_
     refine dt 7 rfl rfl rfl rfl s446 (fun _ hS => px_ex2 rfl rfl) ?_
     refine dt 8 rfl rfl rfl rfl s446 (fun _ hS => px_ex2 rfl rfl) ?_
     refine dx_eff 9 rfl (by kernel_rfl) ?_
     refine sx_alloc [.string (⟨#[]⟩), .bool false, (.slice none 0 0)] rfl Tryz.zeroValue48 rfl (fun b447 w448 eb447 sb447 fb447 cb447 => ?_)
     have zw448 := cb447.size
     have s449 : Chg 0 0 w353 w448 := ((((d433.t c435).t c439).t c445).t cb447)
     refine wl_nil ?_
     refine dx_next s449 ?_
     refine dx_eff 10 rfl (by kernel_rfl) ?_
     have f451 := os_445.ext cb447
     refine sx_store (vs := [.string ((need pv ts c1 n1 z1 fo).1), .bool ((need pv ts c1 n1 z1 fo).2.1), s445]) rfl rfl fb447 rfl Tryz.sizeOf48 (nbl rfl) (one_cons rfl (one_cons rfl (one_cons f451.one one_nil))) (fun w450 sw450 fw450 cw450 => ?_)
     have zw450 := cw450.size
     have gw450 : Blk w450 b447 [.string ((need pv ts c1 n1 z1 fo).1), .bool ((need pv ts c1 n1 z1 fo).2.1), s445] 48 := fw450
     have q453 := Chg.step (l := 0) (h := 0) (Chg.zero (l := 0) (h := 0) ((((d433.t c435).t c439).t c445).t cb447)) cw450 (by omega)
     have s452 : Chg 0 0 w353 w450 := q453
     refine wl_nil ?_
     refine dx_next s452 ?_
     refine dt 11 rfl rfl rfl rfl s452 (fun _ hS => px_assign rfl) ?_
     refine dx_done (by kernel_rfl) ?_
     have f454 := f451.chg cw450 (by omega)
     have q455 := Chg.step (l := 0) (h := 0) (Chg.zero (l := 0) (h := 0) ((((d433.t c435).t c439).t c445).t cb447)) cw450 (by omega)
     exact q_n (kw_sub (Sub.c 6 rfl (.c 8 rfl (.c 9 rfl (.c 12 rfl (.c 15 rfl (.c 16 rfl (.c 17 rfl (.c 18 rfl .nil)))))))) (kc359 _ _ ⟨b447, s445, w439.heap.size, w445.heap.size, rfl, q455, gw450, f454, by omega, by omega, by omega⟩))
    refine sx_alloc [.string (⟨#[]⟩), .bool false, (.slice none 0 0)] rfl Tryz.zeroValue48 rfl (fun b456 w457 eb456 sb456 fb456 cb456 => ?_)
    have zw457 := cb456.size
    have s458 : Chg 0 0 w353 w457 := (((d433.t c435).t c439).t cb456)
    refine wl_nil ?_
    refine dx_next s458 ?_
    refine dx_eff 5 rfl (by kernel_rfl) ?_
    have f462 := (((f367.ext d433).ext c435).ext c439).ext cb456
    have f464 := (os_435.ext c439).ext cb456
    have f465 := os2_439.ext cb456
    refine sx_call rfl rfl Tryz.call25 (c_iNeeded f462 (f464).toS f465.sv (by omega) (fun i hi => Nat.le_trans (hzs (by omega) i hi) (by omega)) (by omega)) (fun v466 w466 p466 => ?_)
    obtain ⟨s466, rfl, os_466, hl466, c466⟩ := p466
    have zw466 := c466.size
    have s467 : Chg 0 0 w353 w466 := ((((d433.t c435).t c439).t cb456).t c466)
    refine wl_nil ?_
    refine dx_next s467 ?_
    refine dt 6 rfl rfl rfl rfl s467 (fun _ hS => px_move rfl) ?_
    refine dt 7 rfl rfl rfl rfl s467 (fun _ hS => px_ex2 rfl rfl) ?_
    refine dt 8 rfl rfl rfl rfl s467 (fun _ hS => px_ex2 rfl rfl) ?_
    refine dx_eff 10 rfl (by kernel_rfl) ?_
    have f469 := fb456.ext c466
    refine sx_store (vs := [.string ((need pv ts c1 n1 z1 fo).1), .bool ((need pv ts c1 n1 z1 fo).2.1), s466]) rfl rfl f469 rfl Tryz.sizeOf48 (nbl rfl) (one_cons rfl (one_cons rfl (one_cons os_466.one one_nil))) (fun w468 sw468 fw468 cw468 => ?_)
    have zw468 := cw468.size
    have gw468 : Blk w468 b456 [.string ((need pv ts c1 n1 z1 fo).1), .bool ((need pv ts c1 n1 z1 fo).2.1), s466] 48 := fw468
    have q471 := Chg.step (l := 0) (h := 0) (Chg.zero (l := 0) (h := 0) ((((d433.t c435).t c439).t cb456).t c466)) cw468 (by omega)
    have s470 : Chg 0 0 w353 w468 := q471
    refine wl_nil ?_
    refine dx_next s470 ?_
    refine dt 11 rfl rfl rfl rfl s470 (fun _ hS => px_assign rfl) ?_
    refine dx_done (by kernel_rfl) ?_
    have f472 := os_466.chg cw468 (by omega)
    have q473 := Chg.step (l := 0) (h := 0) (Chg.zero (l := 0) (h := 0) ((((d433.t c435).t c439).t cb456).t c466)) cw468 (by omega)
    exact q_n (kw_sub (Sub.c 6 rfl (.c 8 rfl (.c 9 rfl (.c 12 rfl (.c 15 rfl (.c 16 rfl (.c 17 rfl (.c 18 rfl .nil)))))))) (kc359 _ _ ⟨b456, s466, w457.heap.size, w466.heap.size, rfl, q473, gw468, f472, by omega, by omega, by omega⟩))
   refine sx_alloc [.string (⟨#[]⟩), .bool false, (.slice none 0 0)] rfl Tryz.zeroValue48 rfl (fun b474 w475 eb474 sb474 fb474 cb474 => ?_)
   have zw475 := cb474.size
   have s476 : Chg 0 0 w353 w475 := ((d433.t c435).t cb474)
   refine wl_nil ?_
   refine dx_next s476 ?_
   refine dx_eff 3 rfl (by kernel_rfl) ?_
   have f479 := ((f411.ext d433).ext c435).ext cb474
   refine sx_call rfl rfl Tryz.call20 (c_toMoney f479 (by omega)) (fun v480 w480 p480 => ?_)
   obtain ⟨s2480, rfl, os2_480, c480⟩ := p480
   have zw480 := c480.size
   have s481 : Chg 0 0 w353 w480 := (((d433.t c435).t cb474).t c480)
   refine wl_nil ?_
   refine dx_next s481 ?_
   refine dx_eff 5 rfl (by kernel_rfl) ?_
   have f484 := ((f367.ext d433).ext c435).ext cb474
   have f485 := f484.ext c480
   have f486 := os_435.ext cb474
   have f487 := f486.ext c480
   refine sx_call rfl rfl Tryz.call25 (c_iNeeded f485 (f487).toS os2_480.sv (by omega) (fun i hi => Nat.le_trans (hzs (by omega) i hi) (by omega)) (by omega)) (fun v488 w488 p488 => ?_)
   obtain ⟨s488, rfl, os_488, hl488, c488⟩ := p488
   have zw488 := c488.size
   have s489 : Chg 0 0 w353 w488 := ((((d433.t c435).t cb474).t c480).t c488)
   refine wl_nil ?_
   refine dx_next s489 ?_
   refine dt 6 rfl rfl rfl rfl s489 (fun _ hS => px_move rfl) ?_
   refine dt 7 rfl rfl rfl rfl s489 (fun _ hS => px_ex2 rfl rfl) ?_
   refine dt 8 rfl rfl rfl rfl s489 (fun _ hS => px_ex2 rfl rfl) ?_
   refine dx_eff 10 rfl (by kernel_rfl) ?_
   have f492 := (fb474.ext c480).ext c488
   refine sx_store (vs := [.string ((need pv ts c1 n1 z1 fo).1), .bool ((need pv ts c1 n1 z1 fo).2.1), s488]) rfl rfl f492 rfl Tryz.sizeOf48 (nbl rfl) (one_cons rfl (one_cons rfl (one_cons os_488.one one_nil))) (fun w490 sw490 fw490 cw490 => ?_)
   have zw490 := cw490.size
   have gw490 : Blk w490 b474 [.string ((need pv ts c1 n1 z1 fo).1), .bool ((need pv ts c1 n1 z1 fo).2.1), s488] 48 := fw490
   have q494 := Chg.step (l := 0) (h := 0) (Chg.zero (l := 0) (h := 0) ((((d433.t c435).t cb474).t c480).t c488)) cw490 (by omega)
   have s493 : Chg 0 0 w353 w490 := q494
   refine wl_nil ?_
   refine dx_next s493 ?_
   refine dt 11 rfl rfl rfl rfl s493 (fun _ hS => px_assign rfl) ?_
   refine dx_done (by kernel_rfl) ?_
   have f495 := os_488.chg cw490 (by omega)
   have q496 := Chg.step (l := 0) (h := 0) (Chg.zero (l := 0) (h := 0) ((((d433.t c435).t cb474).t c480).t c488)) cw490 (by omega)
   exact q_n (kw_sub (Sub.c 6 rfl (.c 8 rfl (.c 9 rfl (.c 12 rfl (.c 15 rfl (.c 16 rfl (.c 17 rfl (.c 18 rfl .nil)))))))) (kc359 _ _ ⟨b474, s488, w480.heap.size, w488.heap.size, rfl, q496, gw490, f495, by omega, by omega, by omega⟩))
  refine sx_alloc [.string (⟨#[]⟩), .bool false, (.slice none 0 0)] rfl Tryz.zeroValue48 rfl (fun b497 w498 eb497 sb497 fb497 cb497 => ?_)
  have zw498 := cb497.size
  have s499 : Chg 0 0 w353 w498 := (d433.t cb497)
  refine wl_nil ?_
  refine dx_next s499 ?_
  refine dx_eff 1 rfl (by kernel_rfl) ?_
  have f501 := (f404.ext d433).ext cb497
  refine sx_call rfl rfl Tryz.call9 (c_toRates f501 (by omega) (hzs (by omega))) (fun v502 w502 p502 => ?_)
  obtain ⟨s502, us502, rfl, os_502, c502⟩ := p502
  have zw502 := c502.size
  have s503 : Chg 0 0 w353 w502 := ((d433.t cb497).t c502)
  refine wl_nil ?_
  refine dx_next s503 ?_
  refine dx_eff 3 rfl (by kernel_rfl) ?_
  have f505 := (f411.ext d433).ext cb497
  have f506 := f505.ext c502
  refine sx_call rfl rfl Tryz.call20 (c_toMoney f506 (by omega)) (fun v507 w507 p507 => ?_)
  obtain ⟨s2507, rfl, os2_507, c507⟩ := p507
  have zw507 := c507.size
  have s508 : Chg 0 0 w353 w507 := (((d433.t cb497).t c502).t c507)
  refine wl_nil ?_
  refine dx_next s508 ?_
  refine dx_eff 5 rfl (by kernel_rfl) ?_
  have f510 := (f367.ext d433).ext cb497
  have f512 := (f510.ext c502).ext c507
  have f513 := os_502.ext c507
  refine sx_call rfl rfl Tryz.call25 (c_iNeeded f512 (f513).toS os2_507.sv (by omega) (fun i hi => Nat.le_trans (hzs (by omega) i hi) (by omega)) (by omega)) (fun v514 w514 p514 => ?_)
  obtain ⟨s514, rfl, os_514, hl514, c514⟩ := p514
  have zw514 := c514.size
  have s515 : Chg 0 0 w353 w514 := ((((d433.t cb497).t c502).t c507).t c514)
  refine wl_nil ?_
  refine dx_next s515 ?_
  refine dt 6 rfl rfl rfl rfl s515 (fun _ hS => px_move rfl) ?_
  refine dt 7 rfl rfl rfl rfl s515 (fun _ hS => px_ex2 rfl rfl) ?_
  refine dt 8 rfl rfl rfl rfl s515 (fun _ hS => px_ex2 rfl rfl) ?_
  refine dx_eff 10 rfl (by kernel_rfl) ?_
  have f519 := ((fb497.ext c502).ext c507).ext c514
  refine sx_store (vs := [.string ((need pv ts c1 n1 z1 fo).1), .bool ((need pv ts c1 n1 z1 fo).2.1), s514]) rfl rfl f519 rfl Tryz.sizeOf48 (nbl rfl) (one_cons rfl (one_cons rfl (one_cons os_514.one one_nil))) (fun w516 sw516 fw516 cw516 => ?_)
  have zw516 := cw516.size
  have gw516 : Blk w516 b497 [.string ((need pv ts c1 n1 z1 fo).1), .bool ((need pv ts c1 n1 z1 fo).2.1), s514] 48 := fw516
  have q521 := Chg.step (l := 0) (h := 0) (Chg.zero (l := 0) (h := 0) ((((d433.t cb497).t c502).t c507).t c514)) cw516 (by omega)
  have s520 : Chg 0 0 w353 w516 := q521
  refine wl_nil ?_
  refine dx_next s520 ?_
  refine dt 11 rfl rfl rfl rfl s520 (fun _ hS => px_assign rfl) ?_
  refine dx_done (by kernel_rfl) ?_
  have f522 := os_514.chg cw516 (by omega)
  have q523 := Chg.step (l := 0) (h := 0) (Chg.zero (l := 0) (h := 0) ((((d433.t cb497).t c502).t c507).t c514)) cw516 (by omega)
  exact q_n (kw_sub (Sub.c 6 rfl (.c 8 rfl (.c 9 rfl (.c 12 rfl (.c 15 rfl (.c 16 rfl (.c 17 rfl (.c 18 rfl .nil)))))))) (kc359 _ _ ⟨b497, s514, w507.heap.size, w514.heap.size, rfl, q523, gw516, f522, by omega, by omega, by omega⟩))
 rintro fr w'359 ⟨gb359x0, gs359x1, gl359x1, gu359x1, rfl, cw'359, xgb359x0, xgs359x1, ygb359x0, ygl359x1, dgl359x1xgb359x0⟩
 have zw'359 := cw'359.size
 refine sx_seq fun K524 k524 => ?_
 refine sx_seq fun K525 k525 => sx_region ?_
 refine sp rfl (px_load rfl (xgb359x0.loadA (vs := [.string ((need pv ts c1 n1 z1 fo).1), .bool ((need pv ts c1 n1 z1 fo).2.1), gs359x1]) (look_lit rfl) Tryz.isAgg48 Tryz.sizeOf48)) ?_
 have f529 := (((f333.ext c344).chg c349 (by omega)).ext c353).ext cw'359
 refine sp rfl (px_load rfl (f529.loadA (vs := [.string ((need pv ts c1 n1 z1 fo).1), .bool ((need pv ts c1 n1 z1 fo).2.1), gs28x1]) (look_lit rfl) Tryz.isAgg48 Tryz.sizeOf48)) ?_
 have f533 := (((f343.ext c344).chg c349 (by omega)).ext c353).ext cw'359
 refine sx_call rfl rfl Tryz.call22 (c_eqMoney xgs359x1.sv f533.sv (by omega)) (fun v534 w534 p534 => ?_)
 obtain ⟨rfl, c534⟩ := p534
 have zw534 := c534.size
 refine sp rfl (px_notP rfl) ?_
 refine mv rfl rfl ?_
 have h5891 : ¬ (¬ (((need pv ts c1 n1 z1 fo).1) = ((need pv ts c1 n1 z1 fo).1) ∧ ((need pv ts c1 n1 z1 fo).2.1) = ((need pv ts c1 n1 z1 fo).2.1) ∧ ((need pv ts c1 n1 z1 fo).2.2.1) = ((need pv ts c1 n1 z1 fo).2.2.1))) := by simp [mk_length]
 refine sx_tmpPF (t := 114) rfl h5891 ?_
 refine sx_guardT rfl rfl rfl ?_
 refine mv rfl rfl ?_
 refine sx_guardT rfl rfl rfl ?_
 refine mv rfl rfl ?_
 refine sx_guardT rfl rfl rfl ?_
 refine sp rfl (px_neB Tryz.underlying4 rfl rfl) ?_
 refine sp rfl (px_pick rfl rfl) ?_
 refine wl_nil (q_n (k525 _ _ ?_))
 refine sx_sub (Sub.c 6 rfl (.c 12 rfl (.c 15 rfl (.c 16 rfl (.c 118 rfl .nil))))) ?_
 have h5891x1 : (((need pv ts c1 n1 z1 fo).2.2.2) != ((need pv ts c1 n1 z1 fo).2.2.2)) = false := by simp [mk_length]
 refine sx_condBF rfl h5891x1 ?_
 refine sx_skip ?_
 refine q_n (k524 _ _ ?_)
 refine sx_seq fun K535 k535 => sx_region ?_
 refine av rfl rfl (wl_nil (q_n (k535 _ _ ?_)))
 refine sx_seq fun K536 k536 => sx_region ?_
 have f538 := (f352.ext c353).ext cw'359
 have f539 := f538.ext c534
 refine sp rfl (px_load rfl (f539.loadA (vs := [.string ((need pv ts c1 n1 z1 fo).1), .bool ((need pv ts c1 n1 z1 fo).2.1), s163]) (look_lit rfl) Tryz.isAgg48 Tryz.sizeOf48)) ?_
 refine mv rfl rfl ?_
 have f541 := (ov1_349.ext c353).ext cw'359
 have f542 := f541.ext c534
 refine sx_call rfl rfl Tryz.call26 (c_heldMoney f542.sv (by first | omega | (simp only [mk_length]; omega)) (by omega) (by first | assumption | simp [mk_length])) (fun v543 w543 p543 => ?_)
 obtain ⟨rfl, c543⟩ := p543
 have zw543 := c543.size
 refine av rfl rfl (wl_nil (q_n (k536 _ _ ?_)))
 refine sx_seq fun K544 k544 => ?_
 refine sx_seq fun K545 k545 => sx_region ?_
 refine mv rfl rfl (sp rfl (px_lt rfl rfl) ?_)
 refine wl_nil (q_n (k545 _ _ ?_))
 have h5896 : ¬ (((1 : Int) + ↑((mk (1 : Int) (((need pv ts c1 n1 z1 fo).2.2.1)).length)).length : Int) < 0) := by omega
 refine sx_condPF rfl h5896 ?_
 refine sx_skip ?_
 refine q_n (k544 _ _ ?_)
 refine sx_seq fun K546 k546 => ?_
 refine sx_seq fun K547 k547 => sx_region ?_
 refine mv rfl rfl (mv rfl rfl (sp rfl (px_ne rfl rfl) ?_))
 refine wl_nil (q_n (k547 _ _ ?_))
 have h5899 : ¬ (((1 : Int) + ↑((mk (1 : Int) (((need pv ts c1 n1 z1 fo).2.2.1)).length)).length : Int) ≠ (1 : Int) + ↑(((need pv ts c1 n1 z1 fo).2.2.1)).length) := by simp [mk_length]
 refine sx_condPF rfl h5899 ?_
 refine sx_skip ?_
 refine q_n (k546 _ _ ?_)
 refine sx_seq fun K548 k548 => sx_region ?_
 refine av rfl rfl (wl_nil (q_n (k548 _ _ ?_)))
 refine sx_retc ?_
 refine sx_ret1 Tryz.results6 rfl ?_
 have q549 := Chg.step (l := 0) (h := 0) (Chg.zero (l := 0) (h := 0) ((((((cb2.t cb4).t c14).t c23).t cw'28).t c122).t cb123)) cw125 (by omega)
 have q550 := Chg.step (l := 0) (h := 0) q549 (c138.t cb139) (by omega)
 have q551 := Chg.step (l := 0) (h := 0) q550 cw141 (by omega)
 have q552 := Chg.step (l := 0) (h := 0) q551 (c163.t cb164) (by omega)
 have q553 := Chg.step (l := 0) (h := 0) q552 cw166 (by omega)
 have q554 := Chg.step (l := 0) (h := 0) q553 ((((((c189.t d250).t c252).t c256).t d297).t c299).t c303) (by omega)
 have q555 := Chg.step (l := 0) (h := 0) q554 c313 (by omega)
 have q556 := Chg.step (l := 0) (h := 0) q555 c321 (by omega)
 have q557 := Chg.step (l := 0) (h := 0) q556 c344 (by omega)
 have q558 := Chg.step (l := 0) (h := 0) q557 c349 (by omega)
 have q559 := Chg.step (l := 0) (h := 0) q558 (((c353.t cw'359).t c534).t c543) (by omega)
 exact ⟨rfl, q559⟩

end Go.Proofs.YtcghgfmickgnkaaGreatDoor
