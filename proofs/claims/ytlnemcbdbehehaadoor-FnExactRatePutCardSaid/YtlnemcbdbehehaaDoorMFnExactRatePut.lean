/- Contracts of functions of the program: what each call returns, and that it changes nothing that was. Conditions: as each says. -/
import Derived.Test.YtlnemcbdbehehaaDoorTy
import Derived.Test.YtlnemcbdbehehaaDoorNatN
import Derived.Test.YtlnemcbdbehehaaDoorSxD
import Derived.Test.YtlnemcbdbehehaaDoorPair
import Derived.Test.YtlnemcbdbehehaaDoorSxW
import Derived.Test.YtlnemcbdbehehaaDoorNatS
import Derived.Test.YtlnemcbdbehehaaDoorSxG
import Derived.Test.YtlnemcbdbehehaaDoorNatT
import Derived.Test.YtlnemcbdbehehaaDoorNatO
import Derived.Test.YtlnemcbdbehehaaDoorNatV
import Derived.Test.YtlnemcbdbehehaaDoorSxP
import Derived.Test.YtlnemcbdbehehaaDoorM0
import Derived.Test.YtlnemcbdbehehaaDoorM1
import Derived.Test.YtlnemcbdbehehaaDoorM2
import Derived.Test.YtlnemcbdbehehaaDoorNatY
set_option linter.unusedVariables false
set_option linter.unusedSimpArgs false
namespace Go.Proofs.YtlnemcbdbehehaaDoor
open Go Go.RowKit
set_option maxRecDepth 100000
set_option maxHeartbeats 1000000
theorem law_RatePut {w : World} {pv : ByteArray} {vt : Value} {lvt uvt : Nat} {ts : List Rt} {vvt : List Value} {f1 : ByteArray} {t1 : ByteArray} {n1 : Bool} {v1 : Value} {lv1 uv1 : Nat} {z1 : List Int} {p1 : Int} (hG0 : Glob w) (hvt : RtS w lvt uvt vt ts vvt) (hv1 : Sl w lv1 uv1 v1 (z1)) (bpv : pv.size ≤ 9223372036854775807) (bts : ts.length ≤ 9223372036854775807) (hb : ∀ i, i < ts.length → RB (ts.getD i rt0)) (bf1 : f1.size ≤ 9223372036854775807) (bt1 : t1.size ≤ 9223372036854775807) (bz1 : z1.length ≤ 9223372036854775807) :
  Ret Tryd.prog 3 [.agg #[.string pv, vt], .agg #[.string f1, .string t1, .bool n1, v1, .int .i64 p1]] w fun v w' => v = .bool (true) ∧ Chg 0 0 w w' := by
 have hvt0 := hvt.fit
 have hv10 := hv1.fit
 have hG0l : 0 < w.heap.size := by obtain ⟨T, fz, h1⟩ := hG0; rcases Nat.lt_or_ge 0 w.heap.size with h2 | h2; exact h2; simp [Array.getElem?_eq_none h2] at h1
 refine sx_enter Tryd.func3 rfl Tryd.ntmps3 (nbl rfl) ?_
 refine sx_seq fun K1 k1 => sx_region ?_
 refine sx_box [.string pv, vt] rfl rfl rfl (fun b2 w3 eb2 sb2 fb2 cb2 => ?_)
 have zw3 := cb2.size
 refine sx_box [.string f1, .string t1, .bool n1, v1, .int .i64 p1] rfl rfl rfl (fun b4 w5 eb4 sb4 fb4 cb4 => ?_)
 have zw5 := cb4.size
 refine av rfl rfl (wl_nil (q_n (k1 _ _ ?_)))
 refine sx_seq fun K6 k6 => sx_region ?_
 refine av rfl rfl (wl_nil (q_n (k6 _ _ ?_)))
 refine sx_seq fun K7 k7 => sx_region ?_
 have f8 := fb2.ext cb4
 refine sp rfl (px_load rfl (f8.loadA (vs := [.string pv, vt]) (look_lit rfl) Tryd.isAgg24 Tryd.sizeOf24)) ?_
 refine mv rfl rfl ?_
 have f9 := hvt0.ext cb2
 have f10 := f9.ext cb4
 refine sx_call rfl rfl Tryd.call5 (c_szRates f10 (by omega) (by omega) (by assumption) (by omega)) (fun v11 w11 p11 => ?_)
 obtain ⟨r11, rfl, hr11, hzz11, c11⟩ := p11
 have zw11 := c11.size
 have hzs := hzz11
 refine av rfl rfl (wl_nil (q_n (k7 _ _ ?_)))
 refine sx_seq fun K12 k12 => ?_
 refine sx_seq fun K13 k13 => sx_region ?_
 refine mv rfl rfl (sp rfl (px_lt rfl rfl) ?_)
 refine wl_nil (q_n (k13 _ _ ?_))
 refine sx_condP rfl (fun h5436 => ?_) (fun h5436 => ?_)
 ·
  refine sx_seq fun K14 k14 => sx_region ?_
  refine av rfl rfl (wl_nil (q_n (k14 _ _ ?_)))
  refine sx_retc ?_
  refine q_r (sx_ret1 Tryd.results3 rfl ?_)
  exact ⟨rfl, ((cb2.t cb4).t c11)⟩
 replace hr11 := hr11.resolve_left h5436
 refine sx_skip ?_
 refine q_n (k12 _ _ ?_)
 refine sx_seq fun K15 k15 => sx_region ?_
 have f16 := fb4.ext c11
 refine sp rfl (px_load rfl (f16.loadA (vs := [.string f1, .string t1, .bool n1, v1, .int .i64 p1]) (look_lit rfl) Tryd.isAgg31 Tryd.sizeOf31)) ?_
 refine mv rfl rfl ?_
 have f17 := hv10.ext cb2
 have f18 := f17.ext cb4
 have f19 := f18.ext c11
 refine sx_call rfl rfl Tryd.call6 (c_szRate f19 (by omega) (by omega) (by omega) (by omega)) (fun v20 w20 p20 => ?_)
 obtain ⟨r20, rfl, hr20, c20⟩ := p20
 have zw20 := c20.size
 refine av rfl rfl (wl_nil (q_n (k15 _ _ ?_)))
 refine sx_seq fun K21 k21 => ?_
 refine sx_seq fun K22 k22 => sx_region ?_
 refine mv rfl rfl (sp rfl (px_lt rfl rfl) ?_)
 refine wl_nil (q_n (k22 _ _ ?_))
 refine sx_sub (Sub.c 2 rfl (.c 3 rfl (.c 4 rfl (.c 26 rfl .nil)))) ?_
 refine sx_condP rfl (fun h5440 => ?_) (fun h5440 => ?_)
 ·
  refine sx_seq fun K23 k23 => sx_region ?_
  refine av rfl rfl (wl_nil (q_n (k23 _ _ ?_)))
  refine sx_retc ?_
  refine q_r (sx_ret1 Tryd.results3 rfl ?_)
  exact ⟨rfl, (((cb2.t cb4).t c11).t c20)⟩
 replace hr20 := hr20.resolve_left h5440
 refine sx_skip ?_
 refine q_n (k21 _ _ ?_)
 refine sx_seq fun K24 k24 => ?_
 have hpl := rPut_len (pv := pv) (ts := ts) (r := (f1, t1, n1, z1, p1))
 have hpz := rPut_hz (pv := pv) (ts := ts) (r := (f1, t1, n1, z1, p1)) (K := 1048576) (hzs (by omega)) (show z1.length ≤ 1048576 by omega)
 have hmb := mkEnd_bd (n := 1) (ts := (rPut pv ts (f1, t1, n1, z1, p1)).2.1) (rPut pv ts (f1, t1, n1, z1, p1)).2.1.length hpz (Nat.le_refl _)
 rw [List.take_length] at hmb
 have hmi := mkEnd_idem 1 (rPut pv ts (f1, t1, n1, z1, p1)).2.1
 have hml := mkRt_len 1 (rPut pv ts (f1, t1, n1, z1, p1)).2.1
 have hmz := mkRt_hz (n := 1) hpz
 refine sx_cut k24 (fun fr w' => ∃ (gb25x0 : Nat) (gs25x1 : Value) (gv25x1 : List Value) (gu25x1 : Nat) (gl25x1 : Nat), fr = [(2, .pointer (some ⟨b2, 0, none⟩)), (3, .pointer (some ⟨b4, 0, none⟩)), (4, .bool false), (6, .pointer (some ⟨gb25x0, 0, none⟩)), (7, .bool ((rPut pv ts (f1, t1, n1, z1, p1)).2.2))] ∧ Chg 0 0 w20 w' ∧ (Blk w' gb25x0 [.string ((rPut pv ts (f1, t1, n1, z1, p1)).1), gs25x1] 36) ∧ (RtG w' gl25x1 gu25x1 gs25x1 44 intT ((rPut pv ts (f1, t1, n1, z1, p1)).2.1) gv25x1) ∧ (gu25x1 ≤ w'.heap.size) ∧ (w20.heap.size ≤ gb25x0 ∧ gb25x0 + 1 ≤ w'.heap.size) ∧ (w20.heap.size ≤ gl25x1 ∧ gu25x1 ≤ w'.heap.size) ∧ (gu25x1 ≤ gb25x0 ∨ gb25x0 + 1 ≤ gl25x1)) (fun kc25 => ?_) ?_
 ·
  have f26 := hG0.ext cb2
  have f27 := f26.ext cb4
  have f29 := (f27.ext c11).ext c20
  have f31 := (f8.ext c11).ext c20
  have f32 := f16.ext c20
  have f34 := (f10.ext c11).ext c20
  have f35 := f19.ext c20
  refine dx_region (fun w' => Chg 0 0 w20 w') (by kernel_rfl) (Chg.zero (Chg.drew _)) ?_
  have d36 := Chg.drew w20
  have s36 : Chg 0 0 w20 (World.drew w20) := Chg.zero (Chg.drew _)
  have y36 : (World.drew w20).heap.size = w20.heap.size := rfl
  generalize World.drew w20 = w36 at *
  have zw36 := d36.size
  refine dt 0 rfl rfl rfl rfl s36 (fun _ hS => px_load rfl ((f31.chg hS (by omega)).loadA (vs := [.string pv, vt]) (look_lit rfl) Tryd.isAgg24 Tryd.sizeOf24)) ?_
  refine dt 2 rfl rfl rfl rfl s36 (fun _ hS => px_load rfl ((f32.chg hS (by omega)).loadA (vs := [.string f1, .string t1, .bool n1, v1, .int .i64 p1]) (look_lit rfl) Tryd.isAgg31 Tryd.sizeOf31)) ?_
  refine dx_eff2 1 8 rfl rfl (by kernel_rfl) ?_ ?_
  ·
   have f37 := f34.ext d36
   refine sx_call rfl rfl Tryd.call8 (c_toRates f37 (by omega) (hzs (by omega))) (fun v38 w38 p38 => ?_)
   obtain ⟨s38, us38, rfl, os_38, c38⟩ := p38
   have zw38 := c38.size
   have s39 : Chg 0 0 w20 w38 := (d36.t c38)
   refine wl_nil ?_
   refine dx_next s39 ?_
   refine dx_eff2 3 8 rfl rfl (by kernel_rfl) ?_ ?_
   ·
    have f41 := (f35.ext d36).ext c38
    refine sx_call rfl rfl Tryd.call9 (c_toRate f41 (by omega)) (fun v42 w42 p42 => ?_)
    obtain ⟨s42, rfl, os_42, c42⟩ := p42
    have zw42 := c42.size
    have s43 : Chg 0 0 w20 w42 := ((d36.t c38).t c42)
    refine wl_nil ?_
    refine dx_next s43 ?_
    refine dx_eff2 4 8 rfl rfl (by kernel_rfl) ?_ ?_
    ·
     have f44 := os_38.ext c42
     refine sx_call rfl rfl Tryd.call7 (c_sRatePut (f44).toS os_42.sv (by omega) (fun i hi => Nat.le_trans (hzs (by omega) i hi) (by omega)) (by omega)) (fun v45 w45 p45 => ?_)
     obtain ⟨s45, us45, rfl, os_45, c45⟩ := p45
     have zw45 := c45.size
     have s46 : Chg 0 0 w20 w45 := (((d36.t c38).t c42).t c45)
     refine wl_nil ?_
     refine dx_next s46 ?_
     refine dt 5 rfl rfl rfl rfl s46 (fun _ hS => px_move rfl) ?_
     refine dt 6 rfl rfl rfl rfl s46 (fun _ hS => px_ex2 rfl rfl) ?_
     refine dt 7 rfl rfl rfl rfl s46 (fun _ hS => px_ex2 rfl rfl) ?_
     refine dx_eff 8 rfl (by kernel_rfl) ?_
     refine sx_alloc [.string (⟨#[]⟩), (.slice none 0 0)] rfl Tryd.zeroValue36 rfl (fun b47 w48 eb47 sb47 fb47 cb47 => ?_)
     have zw48 := cb47.size
     have s49 : Chg 0 0 w20 w48 := ((((d36.t c38).t c42).t c45).t cb47)
     refine wl_nil ?_
     refine dx_next s49 ?_
     refine dx_eff 9 rfl (by kernel_rfl) ?_
     have f51 := os_45.ext cb47
     refine sx_store (vs := [.string ((rPut pv ts (f1, t1, n1, z1, p1)).1), s45]) rfl rfl fb47 rfl Tryd.sizeOf36 (nbl rfl) (one_cons rfl (one_cons (f51).toS.one one_nil)) (fun w50 sw50 fw50 cw50 => ?_)
     have zw50 := cw50.size
     have gw50 : Blk w50 b47 [.string ((rPut pv ts (f1, t1, n1, z1, p1)).1), s45] 36 := fw50
     have q53 := Chg.step (l := 0) (h := 0) (Chg.zero (l := 0) (h := 0) ((((d36.t c38).t c42).t c45).t cb47)) cw50 (by omega)
     have s52 : Chg 0 0 w20 w50 := q53
     refine wl_nil ?_
     refine dx_next s52 ?_
     refine dt 10 rfl rfl rfl rfl s52 (fun _ hS => px_assign rfl) ?_
     refine dx_done (by kernel_rfl) ?_
     have f54 := f51.chg cw50 (by omega)
     have q55 := Chg.step (l := 0) (h := 0) (Chg.zero (l := 0) (h := 0) ((((d36.t c38).t c42).t c45).t cb47)) cw50 (by omega)
     exact q_n (kw_sub (Sub.c 2 rfl (.c 3 rfl (.c 4 rfl (.c 6 rfl (.c 7 rfl .nil))))) (kc25 _ _ ⟨b47, s45, us45, w45.heap.size, w42.heap.size, rfl, q55, gw50, (f54.mono (Nat.le_refl _) (Nat.le_refl _)), by omega, by omega, by omega, by omega⟩))
    refine sx_alloc [.string (⟨#[]⟩), (.slice none 0 0)] rfl Tryd.zeroValue36 rfl (fun b56 w57 eb56 sb56 fb56 cb56 => ?_)
    have zw57 := cb56.size
    have s58 : Chg 0 0 w20 w57 := (((d36.t c38).t c42).t cb56)
    refine wl_nil ?_
    refine dx_next s58 ?_
    refine dx_eff 4 rfl (by kernel_rfl) ?_
    have f60 := (os_38.ext c42).ext cb56
    have f61 := os_42.ext cb56
    refine sx_call rfl rfl Tryd.call7 (c_sRatePut (f60).toS f61.sv (by omega) (fun i hi => Nat.le_trans (hzs (by omega) i hi) (by omega)) (by omega)) (fun v62 w62 p62 => ?_)
    obtain ⟨s62, us62, rfl, os_62, c62⟩ := p62
    have zw62 := c62.size
    have s63 : Chg 0 0 w20 w62 := ((((d36.t c38).t c42).t cb56).t c62)
    refine wl_nil ?_
    refine dx_next s63 ?_
    refine dt 5 rfl rfl rfl rfl s63 (fun _ hS => px_move rfl) ?_
    refine dt 6 rfl rfl rfl rfl s63 (fun _ hS => px_ex2 rfl rfl) ?_
    refine dt 7 rfl rfl rfl rfl s63 (fun _ hS => px_ex2 rfl rfl) ?_
    refine dx_eff 9 rfl (by kernel_rfl) ?_
    have f65 := fb56.ext c62
    refine sx_store (vs := [.string ((rPut pv ts (f1, t1, n1, z1, p1)).1), s62]) rfl rfl f65 rfl Tryd.sizeOf36 (nbl rfl) (one_cons rfl (one_cons (os_62).toS.one one_nil)) (fun w64 sw64 fw64 cw64 => ?_)
    have zw64 := cw64.size
    have gw64 : Blk w64 b56 [.string ((rPut pv ts (f1, t1, n1, z1, p1)).1), s62] 36 := fw64
    have q67 := Chg.step (l := 0) (h := 0) (Chg.zero (l := 0) (h := 0) ((((d36.t c38).t c42).t cb56).t c62)) cw64 (by omega)
    have s66 : Chg 0 0 w20 w64 := q67
    refine wl_nil ?_
    refine dx_next s66 ?_
    refine dt 10 rfl rfl rfl rfl s66 (fun _ hS => px_assign rfl) ?_
    refine dx_done (by kernel_rfl) ?_
    have f68 := os_62.chg cw64 (by omega)
    have q69 := Chg.step (l := 0) (h := 0) (Chg.zero (l := 0) (h := 0) ((((d36.t c38).t c42).t cb56).t c62)) cw64 (by omega)
    exact q_n (kw_sub (Sub.c 2 rfl (.c 3 rfl (.c 4 rfl (.c 6 rfl (.c 7 rfl .nil))))) (kc25 _ _ ⟨b56, s62, us62, w62.heap.size, w57.heap.size, rfl, q69, gw64, (f68.mono (Nat.le_refl _) (Nat.le_refl _)), by omega, by omega, by omega, by omega⟩))
   refine sx_alloc [.string (⟨#[]⟩), (.slice none 0 0)] rfl Tryd.zeroValue36 rfl (fun b70 w71 eb70 sb70 fb70 cb70 => ?_)
   have zw71 := cb70.size
   have s72 : Chg 0 0 w20 w71 := ((d36.t c38).t cb70)
   refine wl_nil ?_
   refine dx_next s72 ?_
   refine dx_eff 3 rfl (by kernel_rfl) ?_
   have f75 := ((f35.ext d36).ext c38).ext cb70
   refine sx_call rfl rfl Tryd.call9 (c_toRate f75 (by omega)) (fun v76 w76 p76 => ?_)
   obtain ⟨s76, rfl, os_76, c76⟩ := p76
   have zw76 := c76.size
   have s77 : Chg 0 0 w20 w76 := (((d36.t c38).t cb70).t c76)
   refine wl_nil ?_
   refine dx_next s77 ?_
   refine dx_eff 4 rfl (by kernel_rfl) ?_
   have f78 := os_38.ext cb70
   have f79 := f78.ext c76
   refine sx_call rfl rfl Tryd.call7 (c_sRatePut (f79).toS os_76.sv (by omega) (fun i hi => Nat.le_trans (hzs (by omega) i hi) (by omega)) (by omega)) (fun v80 w80 p80 => ?_)
   obtain ⟨s80, us80, rfl, os_80, c80⟩ := p80
   have zw80 := c80.size
   have s81 : Chg 0 0 w20 w80 := ((((d36.t c38).t cb70).t c76).t c80)
   refine wl_nil ?_
   refine dx_next s81 ?_
   refine dt 5 rfl rfl rfl rfl s81 (fun _ hS => px_move rfl) ?_
   refine dt 6 rfl rfl rfl rfl s81 (fun _ hS => px_ex2 rfl rfl) ?_
   refine dt 7 rfl rfl rfl rfl s81 (fun _ hS => px_ex2 rfl rfl) ?_
   refine dx_eff 9 rfl (by kernel_rfl) ?_
   have f84 := (fb70.ext c76).ext c80
   refine sx_store (vs := [.string ((rPut pv ts (f1, t1, n1, z1, p1)).1), s80]) rfl rfl f84 rfl Tryd.sizeOf36 (nbl rfl) (one_cons rfl (one_cons (os_80).toS.one one_nil)) (fun w82 sw82 fw82 cw82 => ?_)
   have zw82 := cw82.size
   have gw82 : Blk w82 b70 [.string ((rPut pv ts (f1, t1, n1, z1, p1)).1), s80] 36 := fw82
   have q86 := Chg.step (l := 0) (h := 0) (Chg.zero (l := 0) (h := 0) ((((d36.t c38).t cb70).t c76).t c80)) cw82 (by omega)
   have s85 : Chg 0 0 w20 w82 := q86
   refine wl_nil ?_
   refine dx_next s85 ?_
   refine dt 10 rfl rfl rfl rfl s85 (fun _ hS => px_assign rfl) ?_
   refine dx_done (by kernel_rfl) ?_
   have f87 := os_80.chg cw82 (by omega)
   have q88 := Chg.step (l := 0) (h := 0) (Chg.zero (l := 0) (h := 0) ((((d36.t c38).t cb70).t c76).t c80)) cw82 (by omega)
   exact q_n (kw_sub (Sub.c 2 rfl (.c 3 rfl (.c 4 rfl (.c 6 rfl (.c 7 rfl .nil))))) (kc25 _ _ ⟨b70, s80, us80, w80.heap.size, w76.heap.size, rfl, q88, gw82, (f87.mono (Nat.le_refl _) (Nat.le_refl _)), by omega, by omega, by omega, by omega⟩))
  refine sx_alloc [.string (⟨#[]⟩), (.slice none 0 0)] rfl Tryd.zeroValue36 rfl (fun b89 w90 eb89 sb89 fb89 cb89 => ?_)
  have zw90 := cb89.size
  have s91 : Chg 0 0 w20 w90 := (d36.t cb89)
  refine wl_nil ?_
  refine dx_next s91 ?_
  refine dx_eff 1 rfl (by kernel_rfl) ?_
  have f93 := (f34.ext d36).ext cb89
  refine sx_call rfl rfl Tryd.call8 (c_toRates f93 (by omega) (hzs (by omega))) (fun v94 w94 p94 => ?_)
  obtain ⟨s94, us94, rfl, os_94, c94⟩ := p94
  have zw94 := c94.size
  have s95 : Chg 0 0 w20 w94 := ((d36.t cb89).t c94)
  refine wl_nil ?_
  refine dx_next s95 ?_
  refine dx_eff 3 rfl (by kernel_rfl) ?_
  have f97 := (f35.ext d36).ext cb89
  have f98 := f97.ext c94
  refine sx_call rfl rfl Tryd.call9 (c_toRate f98 (by omega)) (fun v99 w99 p99 => ?_)
  obtain ⟨s99, rfl, os_99, c99⟩ := p99
  have zw99 := c99.size
  have s100 : Chg 0 0 w20 w99 := (((d36.t cb89).t c94).t c99)
  refine wl_nil ?_
  refine dx_next s100 ?_
  refine dx_eff 4 rfl (by kernel_rfl) ?_
  have f101 := os_94.ext c99
  refine sx_call rfl rfl Tryd.call7 (c_sRatePut (f101).toS os_99.sv (by omega) (fun i hi => Nat.le_trans (hzs (by omega) i hi) (by omega)) (by omega)) (fun v102 w102 p102 => ?_)
  obtain ⟨s102, us102, rfl, os_102, c102⟩ := p102
  have zw102 := c102.size
  have s103 : Chg 0 0 w20 w102 := ((((d36.t cb89).t c94).t c99).t c102)
  refine wl_nil ?_
  refine dx_next s103 ?_
  refine dt 5 rfl rfl rfl rfl s103 (fun _ hS => px_move rfl) ?_
  refine dt 6 rfl rfl rfl rfl s103 (fun _ hS => px_ex2 rfl rfl) ?_
  refine dt 7 rfl rfl rfl rfl s103 (fun _ hS => px_ex2 rfl rfl) ?_
  refine dx_eff 9 rfl (by kernel_rfl) ?_
  have f107 := ((fb89.ext c94).ext c99).ext c102
  refine sx_store (vs := [.string ((rPut pv ts (f1, t1, n1, z1, p1)).1), s102]) rfl rfl f107 rfl Tryd.sizeOf36 (nbl rfl) (one_cons rfl (one_cons (os_102).toS.one one_nil)) (fun w104 sw104 fw104 cw104 => ?_)
  have zw104 := cw104.size
  have gw104 : Blk w104 b89 [.string ((rPut pv ts (f1, t1, n1, z1, p1)).1), s102] 36 := fw104
  have q109 := Chg.step (l := 0) (h := 0) (Chg.zero (l := 0) (h := 0) ((((d36.t cb89).t c94).t c99).t c102)) cw104 (by omega)
  have s108 : Chg 0 0 w20 w104 := q109
  refine wl_nil ?_
  refine dx_next s108 ?_
  refine dt 10 rfl rfl rfl rfl s108 (fun _ hS => px_assign rfl) ?_
  refine dx_done (by kernel_rfl) ?_
  have f110 := os_102.chg cw104 (by omega)
  have q111 := Chg.step (l := 0) (h := 0) (Chg.zero (l := 0) (h := 0) ((((d36.t cb89).t c94).t c99).t c102)) cw104 (by omega)
  exact q_n (kw_sub (Sub.c 2 rfl (.c 3 rfl (.c 4 rfl (.c 6 rfl (.c 7 rfl .nil))))) (kc25 _ _ ⟨b89, s102, us102, w102.heap.size, w99.heap.size, rfl, q111, gw104, (f110.mono (Nat.le_refl _) (Nat.le_refl _)), by omega, by omega, by omega, by omega⟩))
 rintro fr w'25 ⟨gb25x0, gs25x1, gv25x1, gu25x1, gl25x1, rfl, cw'25, xgb25x0, xgs25x1, ygs25x1, ygb25x0, ygl25x1, dgl25x1xgb25x0⟩
 have zw'25 := cw'25.size
 refine sx_seq fun K112 k112 => sx_region ?_
 have f115 := ((f8.ext c11).ext c20).ext cw'25
 refine sp rfl (px_load rfl (f115.loadA (vs := [.string pv, vt]) (look_lit rfl) Tryd.isAgg24 Tryd.sizeOf24)) ?_
 have f118 := ((f10.ext c11).ext c20).ext cw'25
 refine sx_call rfl rfl Tryd.call8 (c_toRates f118 (by omega) (hzs (by omega))) (fun v119 w119 p119 => ?_)
 obtain ⟨s119, us119, rfl, os_119, c119⟩ := p119
 have zw119 := c119.size
 refine sx_alloc [.string (⟨#[]⟩), (.slice none 0 0)] rfl Tryd.zeroValue36 rfl (fun b120 w121 eb120 sb120 fb120 cb120 => ?_)
 have zw121 := cb120.size
 have f123 := os_119.ext cb120
 refine sx_store (vs := [.string pv, s119]) rfl rfl fb120 rfl Tryd.sizeOf36 (nbl rfl) (one_cons rfl (one_cons (f123).toS.one one_nil)) (fun w122 sw122 fw122 cw122 => ?_)
 have zw122 := cw122.size
 have gw122 : Blk w122 b120 [.string pv, s119] 36 := fw122
 refine wl_nil (q_n (k112 _ _ ?_))
 refine sx_seq fun K124 k124 => sx_region ?_
 have f126 := (f16.ext c20).ext cw'25
 have f128 := (f126.ext c119).ext cb120
 have f129 := f128.chg cw122 (by omega)
 refine sp rfl (px_load rfl (f129.loadA (vs := [.string f1, .string t1, .bool n1, v1, .int .i64 p1]) (look_lit rfl) Tryd.isAgg31 Tryd.sizeOf31)) ?_
 have f131 := (f19.ext c20).ext cw'25
 have f133 := (f131.ext c119).ext cb120
 have f134 := f133.chg cw122 (by omega)
 refine sx_call rfl rfl Tryd.call9 (c_toRate f134 (by omega)) (fun v135 w135 p135 => ?_)
 obtain ⟨s135, rfl, os_135, c135⟩ := p135
 have zw135 := c135.size
 refine sx_alloc [.string (⟨#[]⟩), .string (⟨#[]⟩), .bool false, (.slice none 0 0), .int .i64 0] rfl Tryd.zeroValue44 rfl (fun b136 w137 eb136 sb136 fb136 cb136 => ?_)
 have zw137 := cb136.size
 have f139 := os_135.ext cb136
 refine sx_store (vs := [.string f1, .string t1, .bool n1, s135, .int .i64 p1]) rfl rfl fb136 rfl Tryd.sizeOf44 (nbl rfl) (one_cons rfl (one_cons rfl (one_cons rfl (one_cons f139.one (o1 rfl))))) (fun w138 sw138 fw138 cw138 => ?_)
 have zw138 := cw138.size
 have gw138 : Blk w138 b136 [.string f1, .string t1, .bool n1, s135, .int .i64 p1] 44 := fw138
 refine wl_nil (q_n (k124 _ _ ?_))
 refine sx_seq fun K140 k140 => sx_region ?_
 have f142 := (gw122.ext c135).ext cb136
 have f143 := f142.chg cw138 (by omega)
 refine sp rfl (px_load rfl (f143.loadA (vs := [.string pv, s119]) (look_lit rfl) Tryd.isAgg36 Tryd.sizeOf36)) ?_
 refine sp rfl (px_load rfl (gw138.loadA (vs := [.string f1, .string t1, .bool n1, s135, .int .i64 p1]) (look_lit rfl) Tryd.isAgg44 Tryd.sizeOf44)) ?_
 have f144 := hG0.ext cb2
 have f145 := f144.ext cb4
 have f148 := ((f145.ext c11).ext c20).ext cw'25
 have f150 := (f148.ext c119).ext cb120
 have f151 := f150.chg cw122 (by omega)
 have f153 := (f151.ext c135).ext cb136
 have f154 := f153.chg cw138 (by omega)
 have f155 := f123.chg cw122 (by omega)
 have f157 := (f155.ext c135).ext cb136
 have f158 := f157.chg cw138 (by omega)
 have f159 := f139.chg cw138 (by omega)
 refine sx_call rfl rfl Tryd.call10 (c_iRatePut f154 (f158).toS f159.sv (by omega) (fun i hi => Nat.le_trans (hzs (by omega) i hi) (by omega)) (by omega)) (fun v160 w160 p160 => ?_)
 obtain ⟨s160, us160, rfl, os_160, c160⟩ := p160
 have zw160 := c160.size
 refine mv rfl rfl (sp rfl (px_ex2 rfl rfl) ?_)
 refine sp rfl (px_ex2 rfl rfl) ?_
 refine sx_alloc [.string (⟨#[]⟩), (.slice none 0 0)] rfl Tryd.zeroValue36 rfl (fun b161 w162 eb161 sb161 fb161 cb161 => ?_)
 have zw162 := cb161.size
 have f164 := os_160.ext cb161
 refine sx_store (vs := [.string ((rPut pv ts (f1, t1, n1, z1, p1)).1), s160]) rfl rfl fb161 rfl Tryd.sizeOf36 (nbl rfl) (one_cons rfl (one_cons (f164).toS.one one_nil)) (fun w163 sw163 fw163 cw163 => ?_)
 have zw163 := cw163.size
 have gw163 : Blk w163 b161 [.string ((rPut pv ts (f1, t1, n1, z1, p1)).1), s160] 36 := fw163
 refine av rfl rfl (wl_nil (q_n (k140 _ _ ?_)))
 refine sx_sub (Sub.c 2 rfl (.c 3 rfl (.c 4 rfl (.c 6 rfl (.c 7 rfl (.c 8 rfl (.c 9 rfl (.c 10 rfl (.c 11 rfl .nil))))))))) ?_
 refine sx_seq fun K165 k165 => ?_
 refine sx_seq fun K166 k166 => sx_region ?_
 refine sp rfl (px_load rfl (gw163.loadA (vs := [.string ((rPut pv ts (f1, t1, n1, z1, p1)).1), s160]) (look_lit rfl) Tryd.isAgg36 Tryd.sizeOf36)) ?_
 have f168 := (xgb25x0.ext c119).ext cb120
 have f169 := f168.chg cw122 (by omega)
 have f171 := (f169.ext c135).ext cb136
 have f172 := f171.chg cw138 (by omega)
 have f174 := (f172.ext c160).ext cb161
 have f175 := f174.chg cw163 (by omega)
 refine sp rfl (px_load rfl (f175.loadA (vs := [.string ((rPut pv ts (f1, t1, n1, z1, p1)).1), gs25x1]) (look_lit rfl) Tryd.isAgg36 Tryd.sizeOf36)) ?_
 have f176 := f164.chg cw163 (by omega)
 have f178 := (xgs25x1.ext c119).ext cb120
 have f179 := f178.chg cw122 (by omega)
 have f181 := (f179.ext c135).ext cb136
 have f182 := f181.chg cw138 (by omega)
 have f184 := (f182.ext c160).ext cb161
 have f185 := f184.chg cw163 (by omega)
 refine sx_call rfl rfl Tryd.call11 (c_eqRates (f176).toS (f185).toS (by omega) (by first | exact hzs (by omega) | exact hpz | exact hmz) (by first | exact hzs (by omega) | exact hpz | exact hmz)) (fun v186 w186 p186 => ?_)
 obtain ⟨rfl, c186⟩ := p186
 have zw186 := c186.size
 refine sp rfl (px_notP rfl) ?_
 refine mv rfl rfl ?_
 have h5447 : ¬ (¬ (((rPut pv ts (f1, t1, n1, z1, p1)).1) = ((rPut pv ts (f1, t1, n1, z1, p1)).1) ∧ ((rPut pv ts (f1, t1, n1, z1, p1)).2.1) = ((rPut pv ts (f1, t1, n1, z1, p1)).2.1))) := by simp [mk_length]
 refine sx_tmpPF (t := 49) rfl h5447 ?_
 refine sx_guardT rfl rfl rfl ?_
 refine mv rfl rfl ?_
 refine sx_guardT rfl rfl rfl ?_
 refine mv rfl rfl ?_
 refine sx_guardT rfl rfl rfl ?_
 refine sp rfl (px_neB Tryd.underlying4 rfl rfl) ?_
 refine sp rfl (px_pick rfl rfl) ?_
 refine wl_nil (q_n (k166 _ _ ?_))
 refine sx_sub (Sub.c 2 rfl (.c 3 rfl (.c 4 rfl (.c 6 rfl (.c 7 rfl (.c 8 rfl (.c 9 rfl (.c 10 rfl (.c 11 rfl (.c 53 rfl .nil)))))))))) ?_
 have h5447x1 : (((rPut pv ts (f1, t1, n1, z1, p1)).2.2) != ((rPut pv ts (f1, t1, n1, z1, p1)).2.2)) = false := by simp [mk_length]
 refine sx_condBF rfl h5447x1 ?_
 refine sx_skip ?_
 refine q_n (k165 _ _ ?_)
 refine sx_seq fun K187 k187 => ?_
 refine sx_seq fun K188 k188 => ?_
 have f190 := (f154.ext c160).ext cb161
 have f191 := f190.chg cw163 (by omega)
 have f194 := (f115.ext c119).ext cb120
 have f195 := f194.chg cw122 (by omega)
 have f197 := (f195.ext c135).ext cb136
 have f198 := f197.chg cw138 (by omega)
 have f200 := (f198.ext c160).ext cb161
 have f201 := f200.chg cw163 (by omega)
 have f202 := f201.ext c186
 have f204 := (f129.ext c135).ext cb136
 have f205 := f204.chg cw138 (by omega)
 have f207 := (f205.ext c160).ext cb161
 have f208 := f207.chg cw163 (by omega)
 have f212 := (f143.ext c160).ext cb161
 have f213 := f212.chg cw163 (by omega)
 have f214 := f213.ext c186
 have f216 := (gw138.ext c160).ext cb161
 have f217 := f216.chg cw163 (by omega)
 have f221 := (f118.ext c119).ext cb120
 have f222 := f221.chg cw122 (by omega)
 have f224 := (f222.ext c135).ext cb136
 have f225 := f224.chg cw138 (by omega)
 have f227 := (f225.ext c160).ext cb161
 have f228 := f227.chg cw163 (by omega)
 have f231 := (f134.ext c135).ext cb136
 have f232 := f231.chg cw138 (by omega)
 have f234 := (f232.ext c160).ext cb161
 have f235 := f234.chg cw163 (by omega)
 have f239 := (f158.ext c160).ext cb161
 have f240 := f239.chg cw163 (by omega)
 have f243 := (f159.ext c160).ext cb161
 have f244 := f243.chg cw163 (by omega)
 refine dx_region (fun w' => Chg 0 0 w186 w') (by kernel_rfl) (Chg.zero (Chg.drew _)) ?_
 have d247 := Chg.drew w186
 have s247 : Chg 0 0 w186 (World.drew w186) := Chg.zero (Chg.drew _)
 have y247 : (World.drew w186).heap.size = w186.heap.size := rfl
 generalize World.drew w186 = w247 at *
 have zw247 := d247.size
 refine dt 0 rfl rfl rfl rfl s247 (fun _ hS => px_load rfl ((f214.chg hS (by omega)).loadA (vs := [.string pv, s119]) (look_lit rfl) Tryd.isAgg36 Tryd.sizeOf36)) ?_
 refine dt 1 rfl rfl rfl rfl s247 (fun _ hS => px_load rfl ((f202.chg hS (by omega)).loadA (vs := [.string pv, vt]) (look_lit rfl) Tryd.isAgg24 Tryd.sizeOf24)) ?_
 refine dx_eff 2 rfl (by kernel_rfl) ?_
 have f248 := (f228.ext c186).ext d247
 refine sx_call rfl rfl Tryd.call8 (c_toRates f248 (by omega) (hzs (by omega))) (fun v249 w249 p249 => ?_)
 obtain ⟨s249, us249, rfl, os_249, c249⟩ := p249
 have zw249 := c249.size
 have s250 : Chg 0 0 w186 w249 := (d247.t c249)
 refine wl_nil ?_
 refine dx_next s250 ?_
 refine dx_eff 3 rfl (by kernel_rfl) ?_
 have f252 := ((f240.ext c186).ext d247).ext c249
 refine sx_call rfl rfl Tryd.call11 (c_eqRates (f252).toS (os_249).toS (by omega) (by first | exact hzs (by omega) | exact hpz | exact hmz) (by first | exact hzs (by omega) | exact hpz | exact hmz)) (fun v253 w253 p253 => ?_)
 obtain ⟨rfl, c253⟩ := p253
 have zw253 := c253.size
 have s254 : Chg 0 0 w186 w253 := ((d247.t c249).t c253)
 refine wl_nil ?_
 refine dx_next s254 ?_
 refine dt 4 rfl rfl rfl rfl s254 (fun _ hS => px_notP rfl) ?_
 refine dx_done (by kernel_rfl) ?_
 refine q_n (k188 _ _ ?_)
 refine sx_sub (Sub.c 2 rfl (.c 3 rfl (.c 4 rfl (.c 6 rfl (.c 7 rfl (.c 8 rfl (.c 9 rfl (.c 10 rfl (.c 11 rfl (.c 58 rfl .nil)))))))))) ?_
 have h5450 : ¬ (¬ (pv = pv ∧ ts = ts)) := by simp [mk_length]
 refine sx_condPF rfl h5450 ?_
 refine sx_skip ?_
 refine q_n (k187 _ _ ?_)
 refine sx_seq fun K255 k255 => ?_
 refine sx_seq fun K256 k256 => ?_
 have f265 := (((f208.ext c186).ext d247).ext c249).ext c253
 have f274 := (((f217.ext c186).ext d247).ext c249).ext c253
 refine dx_region (fun w' => Chg 0 0 w253 w') (by kernel_rfl) (Chg.zero (Chg.drew _)) ?_
 have d294 := Chg.drew w253
 have s294 : Chg 0 0 w253 (World.drew w253) := Chg.zero (Chg.drew _)
 have y294 : (World.drew w253).heap.size = w253.heap.size := rfl
 generalize World.drew w253 = w294 at *
 have zw294 := d294.size
 refine dt 0 rfl rfl rfl rfl s294 (fun _ hS => px_load rfl ((f274.chg hS (by omega)).loadA (vs := [.string f1, .string t1, .bool n1, s135, .int .i64 p1]) (look_lit rfl) Tryd.isAgg44 Tryd.sizeOf44)) ?_
 refine dt 1 rfl rfl rfl rfl s294 (fun _ hS => px_load rfl ((f265.chg hS (by omega)).loadA (vs := [.string f1, .string t1, .bool n1, v1, .int .i64 p1]) (look_lit rfl) Tryd.isAgg31 Tryd.sizeOf31)) ?_
 refine dx_eff 2 rfl (by kernel_rfl) ?_
 have f295 := ((((f235.ext c186).ext d247).ext c249).ext c253).ext d294
 refine sx_call rfl rfl Tryd.call9 (c_toRate f295 (by omega)) (fun v296 w296 p296 => ?_)
 obtain ⟨s296, rfl, os_296, c296⟩ := p296
 have zw296 := c296.size
 have s297 : Chg 0 0 w253 w296 := (d294.t c296)
 refine wl_nil ?_
 refine dx_next s297 ?_
 refine dx_eff 3 rfl (by kernel_rfl) ?_
 have f299 := (((((f244.ext c186).ext d247).ext c249).ext c253).ext d294).ext c296
 refine sx_call rfl rfl Tryd.call12 (c_eqRate f299.sv os_296.sv (by omega)) (fun v300 w300 p300 => ?_)
 obtain ⟨rfl, c300⟩ := p300
 have zw300 := c300.size
 have s301 : Chg 0 0 w253 w300 := ((d294.t c296).t c300)
 refine wl_nil ?_
 refine dx_next s301 ?_
 refine dt 4 rfl rfl rfl rfl s301 (fun _ hS => px_notP rfl) ?_
 refine dx_done (by kernel_rfl) ?_
 refine q_n (k256 _ _ ?_)
 refine sx_sub (Sub.c 2 rfl (.c 3 rfl (.c 4 rfl (.c 6 rfl (.c 7 rfl (.c 8 rfl (.c 9 rfl (.c 10 rfl (.c 11 rfl (.c 63 rfl .nil)))))))))) ?_
 have h5453 : ¬ (¬ (f1 = f1 ∧ t1 = t1 ∧ n1 = n1 ∧ z1 = z1 ∧ p1 = p1)) := by simp [mk_length]
 refine sx_condPF rfl h5453 ?_
 refine sx_skip ?_
 refine q_n (k255 _ _ ?_)
 refine sx_seq fun K302 k302 => sx_region ?_
 refine av rfl rfl (wl_nil (q_n (k302 _ _ ?_)))
 refine sx_seq fun K303 k303 => sx_region ?_
 have f306 := (((((f214.ext d247).ext c249).ext c253).ext d294).ext c296).ext c300
 refine sp rfl (px_load rfl (f306.loadA (vs := [.string pv, s119]) (look_lit rfl) Tryd.isAgg36 Tryd.sizeOf36)) ?_
 refine mv rfl rfl ?_
 have f309 := (((f252.ext c253).ext d294).ext c296).ext c300
 refine sx_call rfl rfl Tryd.call13 (c_markRates f309 (by omega) (by first | exact hzs (by omega) | exact hpz | exact hmz) (by omega) (by omega)) (fun v310 w310 p310 => ?_)
 obtain ⟨ks310, rfl, hk310, c310⟩ := p310
 have zw310 := c310.size
 refine av rfl rfl (wl_nil (q_n (k303 _ _ ?_)))
 refine sx_seq fun K311 k311 => sx_region ?_
 have f315 := (((f274.ext d294).ext c296).ext c300).chg c310 (by omega)
 refine sp rfl (px_load rfl (f315.loadA (vs := [.string f1, .string t1, .bool n1, s135, .int .i64 p1]) (look_lit rfl) Tryd.isAgg44 Tryd.sizeOf44)) ?_
 refine mv rfl rfl ?_
 have f317 := (f299.ext c300).chg c310 (by omega)
 refine sx_call rfl rfl Tryd.call14 (c_markRate f317 (by omega) (by omega)) (fun v318 w318 p318 => ?_)
 obtain ⟨rfl, ov1_318, c318⟩ := p318
 have zw318 := c318.size
 refine av rfl rfl (wl_nil (q_n (k311 _ _ ?_)))
 refine sx_sub (Sub.c 2 rfl (.c 3 rfl (.c 4 rfl (.c 6 rfl (.c 7 rfl (.c 10 rfl (.c 11 rfl (.c 12 rfl .nil)))))))) ?_
 refine sx_seq fun K319 k319 => ?_
 refine sx_seq fun K320 k320 => sx_region ?_
 refine mv rfl rfl (sp rfl (px_lt rfl rfl) ?_)
 refine mv rfl rfl ?_
 have h5459 : ¬ ((((1 : Int) + ↑((ks310 : List Int)).length) + ↑(z1).length : Int) < 0) := by omega
 refine sx_tmpPF (t := 72) rfl h5459 ?_
 refine sx_guardT rfl rfl rfl ?_
 have f325 := ((((((((gw163.ext c186).ext d247).ext c249).ext c253).ext d294).ext c296).ext c300).chg c310 (by omega)).chg c318 (by omega)
 refine sp rfl (px_load rfl (f325.loadA (vs := [.string ((rPut pv ts (f1, t1, n1, z1, p1)).1), s160]) (look_lit rfl) Tryd.isAgg36 Tryd.sizeOf36)) ?_
 refine sx_guardT rfl rfl rfl ?_
 have f330 := ((((((((f175.ext c186).ext d247).ext c249).ext c253).ext d294).ext c296).ext c300).chg c310 (by omega)).chg c318 (by omega)
 refine sp rfl (px_load rfl (f330.loadA (vs := [.string ((rPut pv ts (f1, t1, n1, z1, p1)).1), gs25x1]) (look_lit rfl) Tryd.isAgg36 Tryd.sizeOf36)) ?_
 refine sx_guardT rfl rfl rfl ?_
 have f335 := ((((((((f176.ext c186).ext d247).ext c249).ext c253).ext d294).ext c296).ext c300).chg c310 (by omega)).chg c318 (by omega)
 have f340 := ((((((((f185.ext c186).ext d247).ext c249).ext c253).ext d294).ext c296).ext c300).chg c310 (by omega)).chg c318 (by omega)
 refine sx_call rfl rfl Tryd.call11 (c_eqRates (f335).toS (f340).toS (by omega) (by first | exact hzs (by omega) | exact hpz | exact hmz) (by first | exact hzs (by omega) | exact hpz | exact hmz)) (fun v341 w341 p341 => ?_)
 obtain ⟨rfl, c341⟩ := p341
 have zw341 := c341.size
 refine sx_guardT rfl rfl rfl ?_
 refine sp rfl (px_notP rfl) ?_
 refine sp rfl (px_pick rfl rfl) ?_
 refine mv rfl rfl ?_
 have h5459x1 : ¬ (¬ (((rPut pv ts (f1, t1, n1, z1, p1)).1) = ((rPut pv ts (f1, t1, n1, z1, p1)).1) ∧ ((rPut pv ts (f1, t1, n1, z1, p1)).2.1) = ((rPut pv ts (f1, t1, n1, z1, p1)).2.1))) := by simp [mk_length]
 refine sx_tmpPF (t := 78) rfl h5459x1 ?_
 refine sx_guardT rfl rfl rfl ?_
 refine mv rfl rfl ?_
 refine sx_guardT rfl rfl rfl ?_
 refine mv rfl rfl ?_
 refine sx_guardT rfl rfl rfl ?_
 refine sp rfl (px_neB Tryd.underlying4 rfl rfl) ?_
 refine sp rfl (px_pick rfl rfl) ?_
 refine wl_nil (q_n (k320 _ _ ?_))
 refine sx_sub (Sub.c 2 rfl (.c 3 rfl (.c 4 rfl (.c 6 rfl (.c 7 rfl (.c 10 rfl (.c 82 rfl .nil))))))) ?_
 have h5459x2 : (((rPut pv ts (f1, t1, n1, z1, p1)).2.2) != ((rPut pv ts (f1, t1, n1, z1, p1)).2.2)) = false := by simp [mk_length]
 refine sx_condBF rfl h5459x2 ?_
 refine sx_skip ?_
 refine q_n (k319 _ _ ?_)
 refine sx_seq fun K342 k342 => sx_region ?_
 refine av rfl rfl (wl_nil (q_n (k342 _ _ ?_)))
 refine sx_seq fun K343 k343 => sx_region ?_
 have f344 := f325.ext c341
 refine sp rfl (px_load rfl (f344.loadA (vs := [.string ((rPut pv ts (f1, t1, n1, z1, p1)).1), s160]) (look_lit rfl) Tryd.isAgg36 Tryd.sizeOf36)) ?_
 refine mv rfl rfl ?_
 have f345 := f335.ext c341
 refine sx_call rfl rfl Tryd.call13 (c_markRatesG f345 (by omega) (by first | exact hzs (by omega) | exact hpz | exact hmz) (by omega) (by omega)) (fun v346 w346 p346 => ?_)
 obtain ⟨rfl, ovt_346, c346⟩ := p346
 have zw346 := c346.size
 refine av rfl rfl (wl_nil (q_n (k343 _ _ ?_)))
 refine sx_seq fun K347 k347 => sx_region ?_
 refine av rfl rfl (wl_nil (q_n (k347 _ _ ?_)))
 refine sx_seq fun K348 k348 => sx_region ?_
 have f349 := f344.chg c346 (by omega)
 refine sp rfl (px_load rfl (f349.loadA (vs := [.string ((rPut pv ts (f1, t1, n1, z1, p1)).1), s160]) (look_lit rfl) Tryd.isAgg36 Tryd.sizeOf36)) ?_
 refine mv rfl rfl (sx_call rfl rfl Tryd.call15 (c_heldRatesG (ovt_346).toS (by omega) (by first | exact hzs (by omega) | exact hpz | exact hmz) (by omega) (by first | assumption | exact mkRt_idem _ _)) (fun v350 w350 p350 => ?_))
 obtain ⟨rfl, c350⟩ := p350
 have zw350 := c350.size
 refine av rfl rfl (wl_nil (q_n (k348 _ _ ?_)))
 refine sx_sub (Sub.c 2 rfl (.c 3 rfl (.c 4 rfl (.c 6 rfl (.c 7 rfl (.c 10 rfl (.c 13 rfl (.c 14 rfl .nil)))))))) ?_
 refine sx_seq fun K351 k351 => ?_
 refine sx_seq fun K352 k352 => sx_region ?_
 refine mv rfl rfl (sp rfl (px_lt rfl rfl) ?_)
 refine wl_nil (q_n (k352 _ _ ?_))
 have h5466 : ¬ ((mkEnd (1 : Int) (mkRt (1 : Int) ((rPut pv ts (f1, t1, n1, z1, p1)).2.1)) : Int) < 0) := by omega
 refine sx_condPF rfl h5466 ?_
 refine sx_skip ?_
 refine q_n (k351 _ _ ?_)
 refine sx_seq fun K353 k353 => ?_
 refine sx_seq fun K354 k354 => sx_region ?_
 refine mv rfl rfl (mv rfl rfl (sp rfl (px_ne rfl rfl) ?_))
 refine wl_nil (q_n (k354 _ _ ?_))
 have h5469 : ¬ ((mkEnd (1 : Int) (mkRt (1 : Int) ((rPut pv ts (f1, t1, n1, z1, p1)).2.1)) : Int) ≠ mkEnd (1 : Int) ((rPut pv ts (f1, t1, n1, z1, p1)).2.1)) := by omega
 refine sx_condPF rfl h5469 ?_
 refine sx_skip ?_
 refine q_n (k353 _ _ ?_)
 refine sx_seq fun K355 k355 => ?_
 refine sx_cut k355 (fun fr w' => ∃ (gb356x0 : Nat) (gs356x1 : Value) (gv356x1 : List Value) (gu356x1 : Nat) (gl356x1 : Nat), fr = [(4, .bool false), (6, .pointer (some ⟨gb25x0, 0, none⟩)), (7, .bool ((rPut pv ts (f1, t1, n1, z1, p1)).2.2)), (10, .pointer (some ⟨b161, 0, none⟩)), (13, .int .i64 (mkEnd (1 : Int) ((rPut pv ts (f1, t1, n1, z1, p1)).2.1))), (14, .int .i64 (mkEnd (1 : Int) (mkRt (1 : Int) ((rPut pv ts (f1, t1, n1, z1, p1)).2.1)))), (15, .pointer (some ⟨gb356x0, 0, none⟩)), (16, .bool ((rPut pv ts (f1, t1, n1, z1, p1)).2.2))] ∧ Chg 0 0 w350 w' ∧ (Blk w' gb356x0 [.string ((rPut pv ts (f1, t1, n1, z1, p1)).1), gs356x1] 36) ∧ (RtG w' gl356x1 gu356x1 gs356x1 44 intT ((rPut pv ts (f1, t1, n1, z1, p1)).2.1) gv356x1) ∧ (gu356x1 ≤ w'.heap.size) ∧ (w350.heap.size ≤ gb356x0 ∧ gb356x0 + 1 ≤ w'.heap.size) ∧ (w350.heap.size ≤ gl356x1 ∧ gu356x1 ≤ w'.heap.size) ∧ (gu356x1 ≤ gb356x0 ∨ gb356x0 + 1 ≤ gl356x1)) (fun kc356 => ?_) ?_
 ·
  have f364 := (((((((((((f191.ext c186).ext d247).ext c249).ext c253).ext d294).ext c296).ext c300).chg c310 (by omega)).chg c318 (by omega)).ext c341).chg c346 (by omega)).ext c350
  have f372 := ((((((((((f202.ext d247).ext c249).ext c253).ext d294).ext c296).ext c300).chg c310 (by omega)).chg c318 (by omega)).ext c341).chg c346 (by omega)).ext c350
  have f380 := (((((((f265.ext d294).ext c296).ext c300).chg c310 (by omega)).chg c318 (by omega)).ext c341).chg c346 (by omega)).ext c350
  have f383 := ((f330.ext c341).chg c346 (by omega)).ext c350
  have f388 := ((((f306.chg c310 (by omega)).chg c318 (by omega)).ext c341).chg c346 (by omega)).ext c350
  have f392 := (((f315.chg c318 (by omega)).ext c341).chg c346 (by omega)).ext c350
  have f393 := f349.ext c350
  have f401 := (((((((((f248.ext c249).ext c253).ext d294).ext c296).ext c300).chg c310 (by omega)).chg c318 (by omega)).ext c341).chg c346 (by omega)).ext c350
  have f408 := ((((((f295.ext c296).ext c300).chg c310 (by omega)).chg c318 (by omega)).ext c341).chg c346 (by omega)).ext c350
  have f411 := ((f340.ext c341).chg c346 (by omega)).ext c350
  have f414 := ((ov1_318.ext c341).chg c346 (by omega)).ext c350
  have f415 := ovt_346.ext c350
  have f423 := ((((((((os_249.ext c253).ext d294).ext c296).ext c300).chg c310 (by omega)).chg c318 (by omega)).ext c341).chg c346 (by omega)).ext c350
  have f429 := (((((os_296.ext c300).chg c310 (by omega)).chg c318 (by omega)).ext c341).chg c346 (by omega)).ext c350
  refine dx_region (fun w' => Chg 0 0 w350 w') (by kernel_rfl) (Chg.zero (Chg.drew _)) ?_
  have d430 := Chg.drew w350
  have s430 : Chg 0 0 w350 (World.drew w350) := Chg.zero (Chg.drew _)
  have y430 : (World.drew w350).heap.size = w350.heap.size := rfl
  generalize World.drew w350 = w430 at *
  have zw430 := d430.size
  refine dt 0 rfl rfl rfl rfl s430 (fun _ hS => px_load rfl ((f372.chg hS (by omega)).loadA (vs := [.string pv, vt]) (look_lit rfl) Tryd.isAgg24 Tryd.sizeOf24)) ?_
  refine dt 2 rfl rfl rfl rfl s430 (fun _ hS => px_load rfl ((f380.chg hS (by omega)).loadA (vs := [.string f1, .string t1, .bool n1, v1, .int .i64 p1]) (look_lit rfl) Tryd.isAgg31 Tryd.sizeOf31)) ?_
  refine dx_eff2 1 8 rfl rfl (by kernel_rfl) ?_ ?_
  ·
   have f431 := f401.ext d430
   refine sx_call rfl rfl Tryd.call8 (c_toRates f431 (by omega) (hzs (by omega))) (fun v432 w432 p432 => ?_)
   obtain ⟨s432, us432, rfl, os_432, c432⟩ := p432
   have zw432 := c432.size
   have s433 : Chg 0 0 w350 w432 := (d430.t c432)
   refine wl_nil ?_
   refine dx_next s433 ?_
   refine dx_eff2 3 8 rfl rfl (by kernel_rfl) ?_ ?_
   ·
    have f435 := (f408.ext d430).ext c432
    refine sx_call rfl rfl Tryd.call9 (c_toRate f435 (by omega)) (fun v436 w436 p436 => ?_)
    obtain ⟨s436, rfl, os_436, c436⟩ := p436
    have zw436 := c436.size
    have s437 : Chg 0 0 w350 w436 := ((d430.t c432).t c436)
    refine wl_nil ?_
    refine dx_next s437 ?_
    refine dx_eff2 4 8 rfl rfl (by kernel_rfl) ?_ ?_
    ·
     have f440 := ((f364.ext d430).ext c432).ext c436
     have f441 := os_432.ext c436
     refine sx_call rfl rfl Tryd.call10 (c_iRatePut f440 (f441).toS os_436.sv (by omega) (fun i hi => Nat.le_trans (hzs (by omega) i hi) (by omega)) (by omega)) (fun v442 w442 p442 => ?_)
     obtain ⟨s442, us442, rfl, os_442, c442⟩ := p442
     have zw442 := c442.size
     have s443 : Chg 0 0 w350 w442 := (((d430.t c432).t c436).t c442)
     refine wl_nil ?_
     refine dx_next s443 ?_
     refine dt 5 rfl rfl rfl rfl s443 (fun _ hS => px_move rfl) ?_
     refine dt 6 rfl rfl rfl rfl s443 (fun _ hS => px_ex2 rfl rfl) ?_
     refine dt 7 rfl rfl rfl rfl s443 (fun _ hS => px_ex2 rfl rfl) ?_
     refine dx_eff 8 rfl (by kernel_rfl) ?_
     refine sx_alloc [.string (⟨#[]⟩), (.slice none 0 0)] rfl Tryd.zeroValue36 rfl (fun b444 w445 eb444 sb444 fb444 cb444 => ?_)
     have zw445 := cb444.size
     have s446 : Chg 0 0 w350 w445 := ((((d430.t c432).t c436).t c442).t cb444)
     refine wl_nil ?_
     refine dx_next s446 ?_
     refine dx_eff 9 rfl (by kernel_rfl) ?_
     have f448 := os_442.ext cb444
     refine sx_store (vs := [.string ((rPut pv ts (f1, t1, n1, z1, p1)).1), s442]) rfl rfl fb444 rfl Tryd.sizeOf36 (nbl rfl) (one_cons rfl (one_cons (f448).toS.one one_nil)) (fun w447 sw447 fw447 cw447 => ?_)
     have zw447 := cw447.size
     have gw447 : Blk w447 b444 [.string ((rPut pv ts (f1, t1, n1, z1, p1)).1), s442] 36 := fw447
     have q450 := Chg.step (l := 0) (h := 0) (Chg.zero (l := 0) (h := 0) ((((d430.t c432).t c436).t c442).t cb444)) cw447 (by omega)
     have s449 : Chg 0 0 w350 w447 := q450
     refine wl_nil ?_
     refine dx_next s449 ?_
     refine dt 10 rfl rfl rfl rfl s449 (fun _ hS => px_assign rfl) ?_
     refine dx_done (by kernel_rfl) ?_
     have f451 := f448.chg cw447 (by omega)
     have q452 := Chg.step (l := 0) (h := 0) (Chg.zero (l := 0) (h := 0) ((((d430.t c432).t c436).t c442).t cb444)) cw447 (by omega)
     exact q_n (kw_sub (Sub.c 4 rfl (.c 6 rfl (.c 7 rfl (.c 10 rfl (.c 13 rfl (.c 14 rfl (.c 15 rfl (.c 16 rfl .nil)))))))) (kc356 _ _ ⟨b444, s442, us442, w442.heap.size, w436.heap.size, rfl, q452, gw447, (f451.mono (Nat.le_refl _) (Nat.le_refl _)), by omega, by omega, by omega, by omega⟩))
    refine sx_alloc [.string (⟨#[]⟩), (.slice none 0 0)] rfl Tryd.zeroValue36 rfl (fun b453 w454 eb453 sb453 fb453 cb453 => ?_)
    have zw454 := cb453.size
    have s455 : Chg 0 0 w350 w454 := (((d430.t c432).t c436).t cb453)
    refine wl_nil ?_
    refine dx_next s455 ?_
    refine dx_eff 4 rfl (by kernel_rfl) ?_
    have f459 := (((f364.ext d430).ext c432).ext c436).ext cb453
    have f461 := (os_432.ext c436).ext cb453
    have f462 := os_436.ext cb453
    refine sx_call rfl rfl Tryd.call10 (c_iRatePut f459 (f461).toS f462.sv (by omega) (fun i hi => Nat.le_trans (hzs (by omega) i hi) (by omega)) (by omega)) (fun v463 w463 p463 => ?_)
    obtain ⟨s463, us463, rfl, os_463, c463⟩ := p463
    have zw463 := c463.size
    have s464 : Chg 0 0 w350 w463 := ((((d430.t c432).t c436).t cb453).t c463)
    refine wl_nil ?_
    refine dx_next s464 ?_
    refine dt 5 rfl rfl rfl rfl s464 (fun _ hS => px_move rfl) ?_
    refine dt 6 rfl rfl rfl rfl s464 (fun _ hS => px_ex2 rfl rfl) ?_
    refine dt 7 rfl rfl rfl rfl s464 (fun _ hS => px_ex2 rfl rfl) ?_
    refine dx_eff 9 rfl (by kernel_rfl) ?_
    have f466 := fb453.ext c463
    refine sx_store (vs := [.string ((rPut pv ts (f1, t1, n1, z1, p1)).1), s463]) rfl rfl f466 rfl Tryd.sizeOf36 (nbl rfl) (one_cons rfl (one_cons (os_463).toS.one one_nil)) (fun w465 sw465 fw465 cw465 => ?_)
    have zw465 := cw465.size
    have gw465 : Blk w465 b453 [.string ((rPut pv ts (f1, t1, n1, z1, p1)).1), s463] 36 := fw465
    have q468 := Chg.step (l := 0) (h := 0) (Chg.zero (l := 0) (h := 0) ((((d430.t c432).t c436).t cb453).t c463)) cw465 (by omega)
    have s467 : Chg 0 0 w350 w465 := q468
    refine wl_nil ?_
    refine dx_next s467 ?_
    refine dt 10 rfl rfl rfl rfl s467 (fun _ hS => px_assign rfl) ?_
    refine dx_done (by kernel_rfl) ?_
    have f469 := os_463.chg cw465 (by omega)
    have q470 := Chg.step (l := 0) (h := 0) (Chg.zero (l := 0) (h := 0) ((((d430.t c432).t c436).t cb453).t c463)) cw465 (by omega)
    exact q_n (kw_sub (Sub.c 4 rfl (.c 6 rfl (.c 7 rfl (.c 10 rfl (.c 13 rfl (.c 14 rfl (.c 15 rfl (.c 16 rfl .nil)))))))) (kc356 _ _ ⟨b453, s463, us463, w463.heap.size, w454.heap.size, rfl, q470, gw465, (f469.mono (Nat.le_refl _) (Nat.le_refl _)), by omega, by omega, by omega, by omega⟩))
   refine sx_alloc [.string (⟨#[]⟩), (.slice none 0 0)] rfl Tryd.zeroValue36 rfl (fun b471 w472 eb471 sb471 fb471 cb471 => ?_)
   have zw472 := cb471.size
   have s473 : Chg 0 0 w350 w472 := ((d430.t c432).t cb471)
   refine wl_nil ?_
   refine dx_next s473 ?_
   refine dx_eff 3 rfl (by kernel_rfl) ?_
   have f476 := ((f408.ext d430).ext c432).ext cb471
   refine sx_call rfl rfl Tryd.call9 (c_toRate f476 (by omega)) (fun v477 w477 p477 => ?_)
   obtain ⟨s477, rfl, os_477, c477⟩ := p477
   have zw477 := c477.size
   have s478 : Chg 0 0 w350 w477 := (((d430.t c432).t cb471).t c477)
   refine wl_nil ?_
   refine dx_next s478 ?_
   refine dx_eff 4 rfl (by kernel_rfl) ?_
   have f481 := ((f364.ext d430).ext c432).ext cb471
   have f482 := f481.ext c477
   have f483 := os_432.ext cb471
   have f484 := f483.ext c477
   refine sx_call rfl rfl Tryd.call10 (c_iRatePut f482 (f484).toS os_477.sv (by omega) (fun i hi => Nat.le_trans (hzs (by omega) i hi) (by omega)) (by omega)) (fun v485 w485 p485 => ?_)
   obtain ⟨s485, us485, rfl, os_485, c485⟩ := p485
   have zw485 := c485.size
   have s486 : Chg 0 0 w350 w485 := ((((d430.t c432).t cb471).t c477).t c485)
   refine wl_nil ?_
   refine dx_next s486 ?_
   refine dt 5 rfl rfl rfl rfl s486 (fun _ hS => px_move rfl) ?_
   refine dt 6 rfl rfl rfl rfl s486 (fun _ hS => px_ex2 rfl rfl) ?_
   refine dt 7 rfl rfl rfl rfl s486 (fun _ hS => px_ex2 rfl rfl) ?_
   refine dx_eff 9 rfl (by kernel_rfl) ?_
   have f489 := (fb471.ext c477).ext c485
   refine sx_store (vs := [.string ((rPut pv ts (f1, t1, n1, z1, p1)).1), s485]) rfl rfl f489 rfl Tryd.sizeOf36 (nbl rfl) (one_cons rfl (one_cons (os_485).toS.one one_nil)) (fun w487 sw487 fw487 cw487 => ?_)
   have zw487 := cw487.size
   have gw487 : Blk w487 b471 [.string ((rPut pv ts (f1, t1, n1, z1, p1)).1), s485] 36 := fw487
   have q491 := Chg.step (l := 0) (h := 0) (Chg.zero (l := 0) (h := 0) ((((d430.t c432).t cb471).t c477).t c485)) cw487 (by omega)
   have s490 : Chg 0 0 w350 w487 := q491
   refine wl_nil ?_
   refine dx_next s490 ?_
   refine dt 10 rfl rfl rfl rfl s490 (fun _ hS => px_assign rfl) ?_
   refine dx_done (by kernel_rfl) ?_
   have f492 := os_485.chg cw487 (by omega)
   have q493 := Chg.step (l := 0) (h := 0) (Chg.zero (l := 0) (h := 0) ((((d430.t c432).t cb471).t c477).t c485)) cw487 (by omega)
   exact q_n (kw_sub (Sub.c 4 rfl (.c 6 rfl (.c 7 rfl (.c 10 rfl (.c 13 rfl (.c 14 rfl (.c 15 rfl (.c 16 rfl .nil)))))))) (kc356 _ _ ⟨b471, s485, us485, w485.heap.size, w477.heap.size, rfl, q493, gw487, (f492.mono (Nat.le_refl _) (Nat.le_refl _)), by omega, by omega, by omega, by omega⟩))
  refine sx_alloc [.string (⟨#[]⟩), (.slice none 0 0)] rfl Tryd.zeroValue36 rfl (fun b494 w495 eb494 sb494 fb494 cb494 => ?_)
  have zw495 := cb494.size
  have s496 : Chg 0 0 w350 w495 := (d430.t cb494)
  refine wl_nil ?_
  refine dx_next s496 ?_
  refine dx_eff 1 rfl (by kernel_rfl) ?_
  have f498 := (f401.ext d430).ext cb494
  refine sx_call rfl rfl Tryd.call8 (c_toRates f498 (by omega) (hzs (by omega))) (fun v499 w499 p499 => ?_)
  obtain ⟨s499, us499, rfl, os_499, c499⟩ := p499
  have zw499 := c499.size
  have s500 : Chg 0 0 w350 w499 := ((d430.t cb494).t c499)
  refine wl_nil ?_
  refine dx_next s500 ?_
  refine dx_eff 3 rfl (by kernel_rfl) ?_
  have f502 := (f408.ext d430).ext cb494
  have f503 := f502.ext c499
  refine sx_call rfl rfl Tryd.call9 (c_toRate f503 (by omega)) (fun v504 w504 p504 => ?_)
  obtain ⟨s504, rfl, os_504, c504⟩ := p504
  have zw504 := c504.size
  have s505 : Chg 0 0 w350 w504 := (((d430.t cb494).t c499).t c504)
  refine wl_nil ?_
  refine dx_next s505 ?_
  refine dx_eff 4 rfl (by kernel_rfl) ?_
  have f507 := (f364.ext d430).ext cb494
  have f509 := (f507.ext c499).ext c504
  have f510 := os_499.ext c504
  refine sx_call rfl rfl Tryd.call10 (c_iRatePut f509 (f510).toS os_504.sv (by omega) (fun i hi => Nat.le_trans (hzs (by omega) i hi) (by omega)) (by omega)) (fun v511 w511 p511 => ?_)
  obtain ⟨s511, us511, rfl, os_511, c511⟩ := p511
  have zw511 := c511.size
  have s512 : Chg 0 0 w350 w511 := ((((d430.t cb494).t c499).t c504).t c511)
  refine wl_nil ?_
  refine dx_next s512 ?_
  refine dt 5 rfl rfl rfl rfl s512 (fun _ hS => px_move rfl) ?_
  refine dt 6 rfl rfl rfl rfl s512 (fun _ hS => px_ex2 rfl rfl) ?_
  refine dt 7 rfl rfl rfl rfl s512 (fun _ hS => px_ex2 rfl rfl) ?_
  refine dx_eff 9 rfl (by kernel_rfl) ?_
  have f516 := ((fb494.ext c499).ext c504).ext c511
  refine sx_store (vs := [.string ((rPut pv ts (f1, t1, n1, z1, p1)).1), s511]) rfl rfl f516 rfl Tryd.sizeOf36 (nbl rfl) (one_cons rfl (one_cons (os_511).toS.one one_nil)) (fun w513 sw513 fw513 cw513 => ?_)
  have zw513 := cw513.size
  have gw513 : Blk w513 b494 [.string ((rPut pv ts (f1, t1, n1, z1, p1)).1), s511] 36 := fw513
  have q518 := Chg.step (l := 0) (h := 0) (Chg.zero (l := 0) (h := 0) ((((d430.t cb494).t c499).t c504).t c511)) cw513 (by omega)
  have s517 : Chg 0 0 w350 w513 := q518
  refine wl_nil ?_
  refine dx_next s517 ?_
  refine dt 10 rfl rfl rfl rfl s517 (fun _ hS => px_assign rfl) ?_
  refine dx_done (by kernel_rfl) ?_
  have f519 := os_511.chg cw513 (by omega)
  have q520 := Chg.step (l := 0) (h := 0) (Chg.zero (l := 0) (h := 0) ((((d430.t cb494).t c499).t c504).t c511)) cw513 (by omega)
  exact q_n (kw_sub (Sub.c 4 rfl (.c 6 rfl (.c 7 rfl (.c 10 rfl (.c 13 rfl (.c 14 rfl (.c 15 rfl (.c 16 rfl .nil)))))))) (kc356 _ _ ⟨b494, s511, us511, w511.heap.size, w504.heap.size, rfl, q520, gw513, (f519.mono (Nat.le_refl _) (Nat.le_refl _)), by omega, by omega, by omega, by omega⟩))
 rintro fr w'356 ⟨gb356x0, gs356x1, gv356x1, gu356x1, gl356x1, rfl, cw'356, xgb356x0, xgs356x1, ygs356x1, ygb356x0, ygl356x1, dgl356x1xgb356x0⟩
 have zw'356 := cw'356.size
 refine sx_seq fun K521 k521 => ?_
 refine sx_seq fun K522 k522 => sx_region ?_
 refine sp rfl (px_load rfl (xgb356x0.loadA (vs := [.string ((rPut pv ts (f1, t1, n1, z1, p1)).1), gs356x1]) (look_lit rfl) Tryd.isAgg36 Tryd.sizeOf36)) ?_
 have f526 := (((f330.ext c341).chg c346 (by omega)).ext c350).ext cw'356
 refine sp rfl (px_load rfl (f526.loadA (vs := [.string ((rPut pv ts (f1, t1, n1, z1, p1)).1), gs25x1]) (look_lit rfl) Tryd.isAgg36 Tryd.sizeOf36)) ?_
 have f530 := (((f340.ext c341).chg c346 (by omega)).ext c350).ext cw'356
 refine sx_call rfl rfl Tryd.call11 (c_eqRates (xgs356x1).toS (f530).toS (by omega) (by first | exact hzs (by omega) | exact hpz | exact hmz) (by first | exact hzs (by omega) | exact hpz | exact hmz)) (fun v531 w531 p531 => ?_)
 obtain ⟨rfl, c531⟩ := p531
 have zw531 := c531.size
 refine sp rfl (px_notP rfl) ?_
 refine mv rfl rfl ?_
 have h5473 : ¬ (¬ (((rPut pv ts (f1, t1, n1, z1, p1)).1) = ((rPut pv ts (f1, t1, n1, z1, p1)).1) ∧ ((rPut pv ts (f1, t1, n1, z1, p1)).2.1) = ((rPut pv ts (f1, t1, n1, z1, p1)).2.1))) := by simp [mk_length]
 refine sx_tmpPF (t := 106) rfl h5473 ?_
 refine sx_guardT rfl rfl rfl ?_
 refine mv rfl rfl ?_
 refine sx_guardT rfl rfl rfl ?_
 refine mv rfl rfl ?_
 refine sx_guardT rfl rfl rfl ?_
 refine sp rfl (px_neB Tryd.underlying4 rfl rfl) ?_
 refine sp rfl (px_pick rfl rfl) ?_
 refine wl_nil (q_n (k522 _ _ ?_))
 refine sx_sub (Sub.c 4 rfl (.c 10 rfl (.c 13 rfl (.c 14 rfl (.c 110 rfl .nil))))) ?_
 have h5473x1 : (((rPut pv ts (f1, t1, n1, z1, p1)).2.2) != ((rPut pv ts (f1, t1, n1, z1, p1)).2.2)) = false := by simp [mk_length]
 refine sx_condBF rfl h5473x1 ?_
 refine sx_skip ?_
 refine q_n (k521 _ _ ?_)
 refine sx_seq fun K532 k532 => sx_region ?_
 refine av rfl rfl (wl_nil (q_n (k532 _ _ ?_)))
 refine sx_seq fun K533 k533 => sx_region ?_
 have f535 := (f349.ext c350).ext cw'356
 have f536 := f535.ext c531
 refine sp rfl (px_load rfl (f536.loadA (vs := [.string ((rPut pv ts (f1, t1, n1, z1, p1)).1), s160]) (look_lit rfl) Tryd.isAgg36 Tryd.sizeOf36)) ?_
 refine mv rfl rfl ?_
 have f538 := (ovt_346.ext c350).ext cw'356
 have f539 := f538.ext c531
 refine sx_call rfl rfl Tryd.call15 (c_heldRatesG (f539).toS (by omega) (by first | exact hzs (by omega) | exact hpz | exact hmz) (by omega) (by first | assumption | exact mkRt_idem _ _)) (fun v540 w540 p540 => ?_)
 obtain ⟨rfl, c540⟩ := p540
 have zw540 := c540.size
 refine av rfl rfl (wl_nil (q_n (k533 _ _ ?_)))
 refine sx_seq fun K541 k541 => ?_
 refine sx_seq fun K542 k542 => sx_region ?_
 refine mv rfl rfl (sp rfl (px_lt rfl rfl) ?_)
 refine wl_nil (q_n (k542 _ _ ?_))
 have h5478 : ¬ ((mkEnd (1 : Int) (mkRt (1 : Int) ((rPut pv ts (f1, t1, n1, z1, p1)).2.1)) : Int) < 0) := by omega
 refine sx_condPF rfl h5478 ?_
 refine sx_skip ?_
 refine q_n (k541 _ _ ?_)
 refine sx_seq fun K543 k543 => ?_
 refine sx_seq fun K544 k544 => sx_region ?_
 refine mv rfl rfl (mv rfl rfl (sp rfl (px_ne rfl rfl) ?_))
 refine wl_nil (q_n (k544 _ _ ?_))
 have h5481 : ¬ ((mkEnd (1 : Int) (mkRt (1 : Int) ((rPut pv ts (f1, t1, n1, z1, p1)).2.1)) : Int) ≠ mkEnd (1 : Int) ((rPut pv ts (f1, t1, n1, z1, p1)).2.1)) := by omega
 refine sx_condPF rfl h5481 ?_
 refine sx_skip ?_
 refine q_n (k543 _ _ ?_)
 refine sx_seq fun K545 k545 => sx_region ?_
 refine av rfl rfl (wl_nil (q_n (k545 _ _ ?_)))
 refine sx_retc ?_
 refine sx_ret1 Tryd.results3 rfl ?_
 have q546 := Chg.step (l := 0) (h := 0) (Chg.zero (l := 0) (h := 0) ((((((cb2.t cb4).t c11).t c20).t cw'25).t c119).t cb120)) cw122 (by omega)
 have q547 := Chg.step (l := 0) (h := 0) q546 (c135.t cb136) (by omega)
 have q548 := Chg.step (l := 0) (h := 0) q547 cw138 (by omega)
 have q549 := Chg.step (l := 0) (h := 0) q548 (c160.t cb161) (by omega)
 have q550 := Chg.step (l := 0) (h := 0) q549 cw163 (by omega)
 have q551 := Chg.step (l := 0) (h := 0) q550 ((((((c186.t d247).t c249).t c253).t d294).t c296).t c300) (by omega)
 have q552 := Chg.step (l := 0) (h := 0) q551 c310 (by omega)
 have q553 := Chg.step (l := 0) (h := 0) q552 c318 (by omega)
 have q554 := Chg.step (l := 0) (h := 0) q553 c341 (by omega)
 have q555 := Chg.step (l := 0) (h := 0) q554 c346 (by omega)
 have q556 := Chg.step (l := 0) (h := 0) q555 (((c350.t cw'356).t c531).t c540) (by omega)
 exact ⟨rfl, q556⟩

end Go.Proofs.YtlnemcbdbehehaaDoor
