/- Contracts of functions of the program: what each call returns, and that it changes nothing that was. Conditions: as each says. -/
import Derived.Test.YtcghgfmickgnkaaGreatDoorTy
import Derived.Test.YtcghgfmickgnkaaGreatDoorNatP
import Derived.Test.YtcghgfmickgnkaaGreatDoorSxD
import Derived.Test.YtcghgfmickgnkaaGreatDoorPair
import Derived.Test.YtcghgfmickgnkaaGreatDoorSxP
import Derived.Test.YtcghgfmickgnkaaGreatDoorRm
import Derived.Test.YtcghgfmickgnkaaGreatDoorL1
import Derived.Test.YtcghgfmickgnkaaGreatDoorL2
set_option linter.unusedVariables false
set_option linter.unusedSimpArgs false
namespace Go.Proofs.YtcghgfmickgnkaaGreatDoor
open Go Go.RowKit
set_option maxRecDepth 100000
theorem c_sNeeded {w : World} {pv : ByteArray} {vt : Value} {lvt uvt : Nat} {ts : List Rt} {vvt : List Value} {c1 : ByteArray} {n1 : Bool} {v1 : Value} {lv1 uv1 : Nat} {z1 : List Int} {fo : ByteArray} (hvt : RtS w lvt uvt vt ts vvt) (hv1 : Sl w lv1 uv1 v1 (z1)) (h63 : ts.length ≤ 4611686018427387904) (hz : ∀ i, i < ts.length → (ts.getD i rt0).2.2.2.1.length ≤ 4611686018427387904) (h64 : z1.length ≤ 4611686018427387904) :
  Ret Tryz.prog 24 [.agg #[.string pv, vt], .agg #[.string c1, .bool n1, v1], .string fo] w fun v w' => ∃ s, v = .tuple #[.agg #[.string ((need pv ts c1 n1 z1 fo).1), .bool ((need pv ts c1 n1 z1 fo).2.1), s], .bool ((need pv ts c1 n1 z1 fo).2.2.2)] ∧ OwnI w' w.heap.size w'.heap.size s intT ((need pv ts c1 n1 z1 fo).2.2.1) ∧ ((need pv ts c1 n1 z1 fo).2.2.1.length ≤ 4) ∧ Chg 0 0 w w' := by
 have hvt0 := hvt.fit
 have hv10 := hv1.fit
 refine sx_enter Tryz.func24 rfl Tryz.ntmps24 (nbl rfl) ?_
 refine sx_seq fun K1 k1 => sx_region ?_
 refine sx_box [.string pv, vt] rfl rfl rfl (fun b2 w3 eb2 sb2 fb2 cb2 => ?_)
 have zw3 := cb2.size
 refine sx_box [.string c1, .bool n1, v1] rfl rfl rfl (fun b4 w5 eb4 sb4 fb4 cb4 => ?_)
 have zw5 := cb4.size
 refine sx_alloc [.string (⟨#[]⟩), .bool false, (.slice none 0 0)] rfl Tryz.zeroValue48 rfl (fun b6 w7 eb6 sb6 fb6 cb6 => ?_)
 have zw7 := cb6.size
 refine av rfl rfl (wl_nil (q_n (k1 _ _ ?_)))
 refine sx_seq fun K8 k8 => sx_region ?_
 have f9 := fb2.ext cb4
 have f10 := f9.ext cb6
 refine sp rfl (px_load rfl (f10.loadA (vs := [.string pv, vt]) (look_lit rfl) Tryz.isAgg35 Tryz.sizeOf35)) ?_
 refine mv rfl rfl (sp rfl (px_field rfl xfld48x0) ?_)
 have f11 := fb4.ext cb6
 refine sp rfl (px_load rfl (f11.load1 rfl Tryz.isAgg9)) ?_
 have f12 := hvt0.ext cb2
 have f13 := f12.ext cb4
 have f14 := f13.ext cb6
 refine sx_call rfl rfl Tryz.call16 (c_sUnitRate f14 (by omega) (by first | assumption | exact fun i hi => Nat.le_trans (hzz i hi) (by omega))) (fun v15 w15 p15 => ?_)
 obtain ⟨s15, t15, ls15, us15, lt15, ut15, rfl, os_15, ot_15, hd15, hl15, c15⟩ := p15
 have zw15 := c15.size
 refine mv rfl rfl (sp rfl (px_ex2 rfl rfl) ?_)
 refine sp rfl (px_ex2 rfl rfl) ?_
 refine sx_alloc [.bool false, (.slice none 0 0), (.slice none 0 0)] rfl Tryz.zeroValue30 rfl (fun b16 w17 eb16 sb16 fb16 cb16 => ?_)
 have zw17 := cb16.size
 have f19 := ot_15.ext cb16
 have f20 := os_15.ext cb16
 refine sx_store (vs := [.bool ((uRt pv ts fo c1).1), s15, t15]) rfl rfl fb16 rfl Tryz.sizeOf30 (nbl rfl) (one_cons rfl (one_cons f20.one (one_cons f19.one one_nil))) (fun w18 sw18 fw18 cw18 => ?_)
 have zw18 := cw18.size
 have gw18 : Blk w18 b16 [.bool ((uRt pv ts fo c1).1), s15, t15] 30 := fw18
 refine av rfl rfl (wl_nil (q_n (k8 _ _ ?_)))
 refine sx_sub (Sub.c 2 rfl (.c 4 rfl (.c 6 rfl (.c 7 rfl (.c 8 rfl (.c 9 rfl .nil)))))) ?_
 refine sx_seq fun K21 k21 => ?_
 refine sx_seq fun K22 k22 => sx_region ?_
 refine mv rfl rfl (sp rfl (px_not rfl) ?_)
 refine mv rfl rfl ?_
 refine sx_tmpB (t := 25) rfl (fun h47 => ?_) (fun h47 => ?_)
 ·
  refine sx_guardF rfl rfl rfl rfl rfl rfl ?_
  refine sx_guardF rfl rfl rfl rfl rfl rfl ?_
  refine sx_guardF rfl rfl rfl rfl rfl rfl ?_
  refine sp rfl (px_pick rfl rfl) ?_
  refine wl_nil (q_n (k22 _ _ ?_))
  refine sx_condT rfl ?_
  refine sx_seq fun K23 k23 => sx_region ?_
  refine sp rfl (px_build rfl (xbld48x  _)) ?_
  have f26 := (fb6.ext c15).ext cb16
  have f27 := f26.chg cw18 (by omega)
  refine sx_store (vs := [.string (⟨#[]⟩), .bool false, (.slice none 0 0)]) rfl rfl f27 rfl Tryz.sizeOf48 (nbl rfl) (o3 rfl rfl rfl) (fun w24 sw24 fw24 cw24 => ?_)
  have zw24 := cw24.size
  have gw24 : Blk w24 b6 [.string (⟨#[]⟩), .bool false, (.slice none 0 0)] 48 := fw24
  refine av rfl rfl (wl_nil (q_n (k23 _ _ ?_)))
  refine sx_retc ?_
  refine q_r (sx_ret2 Tryz.results24 ⟨_, rfl, gw24.loadA (vs := [.string (⟨#[]⟩), .bool false, (.slice none 0 0)]) (look_lit rfl) Tryz.isAgg48 Tryz.sizeOf48⟩ rfl ?_)
  rw [need_no (fun hh => by first | exact bcl hh.2 h47 | exact h47x1 hh.1)]
  have q28 := Chg.step (l := 0) (h := 0) (Chg.zero (l := 0) (h := 0) ((((cb2.t cb4).t cb6).t c15).t cb16)) cw18 (by omega)
  have q29 := Chg.step (l := 0) (h := 0) q28 cw24 (by omega)
  exact ⟨_, rfl, Own.nil _ _ _ _ _, by simp [noM], q29⟩
 refine sx_guardT rfl rfl rfl ?_
 have f31 := (f11.ext c15).ext cb16
 have f32 := f31.chg cw18 (by omega)
 refine sp rfl (px_load rfl (f32.loadA (vs := [.string c1, .bool n1, v1]) (look_lit rfl) Tryz.isAgg48 Tryz.sizeOf48)) ?_
 refine sx_guardT rfl rfl rfl ?_
 have f33 := hv10.ext cb2
 have f34 := f33.ext cb4
 have f35 := f34.ext cb6
 have f37 := (f35.ext c15).ext cb16
 have f38 := f37.chg cw18 (by omega)
 refine sx_call rfl rfl Tryz.call57 (c_sMoneyOk f38 (by omega)) (fun v39 w39 p39 => ?_)
 obtain ⟨rfl, c39⟩ := p39
 have zw39 := c39.size
 refine sx_guardT rfl rfl rfl ?_
 refine sp rfl (px_notP rfl) ?_
 refine sp rfl (px_pick rfl rfl) ?_
 refine wl_nil (q_n (k22 _ _ ?_))
 refine sx_condP rfl (fun h47x1 => ?_) (fun h47x1 => ?_)
 ·
  refine sx_seq fun K40 k40 => sx_region ?_
  refine sp rfl (px_build rfl (xbld48x  _)) ?_
  have f43 := (fb6.ext c15).ext cb16
  have f44 := f43.chg cw18 (by omega)
  have f45 := f44.ext c39
  refine sx_store (vs := [.string (⟨#[]⟩), .bool false, (.slice none 0 0)]) rfl rfl f45 rfl Tryz.sizeOf48 (nbl rfl) (o3 rfl rfl rfl) (fun w41 sw41 fw41 cw41 => ?_)
  have zw41 := cw41.size
  have gw41 : Blk w41 b6 [.string (⟨#[]⟩), .bool false, (.slice none 0 0)] 48 := fw41
  refine av rfl rfl (wl_nil (q_n (k40 _ _ ?_)))
  refine sx_retc ?_
  refine q_r (sx_ret2 Tryz.results24 ⟨_, rfl, gw41.loadA (vs := [.string (⟨#[]⟩), .bool false, (.slice none 0 0)]) (look_lit rfl) Tryz.isAgg48 Tryz.sizeOf48⟩ rfl ?_)
  rw [need_no (fun hh => by first | exact bcl hh.2 h47 | exact h47x1 hh.1)]
  have q46 := Chg.step (l := 0) (h := 0) (Chg.zero (l := 0) (h := 0) ((((cb2.t cb4).t cb6).t c15).t cb16)) cw18 (by omega)
  have q47 := Chg.step (l := 0) (h := 0) q46 c39 (by omega)
  have q48 := Chg.step (l := 0) (h := 0) q47 cw41 (by omega)
  exact ⟨_, rfl, Own.nil _ _ _ _ _, by simp [noM], q48⟩
 have hok := bnot_f h47
 have hM := Decidable.not_not.1 h47x1
 have hw := need_way (fr := fo) (pv := pv) (ts := ts) hM hok
 refine sx_skip ?_
 refine q_n (k21 _ _ ?_)
 refine sx_seq fun K49 k49 => ?_
 refine sx_cut k49 (fun fr w' => ∃ (gb50x0 : Nat) (gs50x1 : Value) (gl50x1 : Nat) (gu50x1 : Nat) (gs50x2 : Value) (gl50x2 : Nat) (gu50x2 : Nat), fr = [(2, .string fo), (6, .pointer (some ⟨b6, 0, none⟩)), (7, .bool false), (10, .pointer (some ⟨gb50x0, 0, none⟩)), (11, .bool ((rDiv ((mRat c1 n1 z1).1) ((mRat c1 n1 z1).2.1) ((mRat c1 n1 z1).2.2.1) ((uRt pv ts fo c1).1) ((uRt pv ts fo c1).2.1) ((uRt pv ts fo c1).2.2.1)).2.2.2))] ∧ Chg 0 0 w39 w' ∧ (Blk w' gb50x0 [.bool ((rDiv ((mRat c1 n1 z1).1) ((mRat c1 n1 z1).2.1) ((mRat c1 n1 z1).2.2.1) ((uRt pv ts fo c1).1) ((uRt pv ts fo c1).2.1) ((uRt pv ts fo c1).2.2.1)).1), gs50x1, gs50x2] 30) ∧ (Own w' gl50x1 gu50x1 gs50x1 intT (((rDiv ((mRat c1 n1 z1).1) ((mRat c1 n1 z1).2.1) ((mRat c1 n1 z1).2.2.1) ((uRt pv ts fo c1).1) ((uRt pv ts fo c1).2.1) ((uRt pv ts fo c1).2.2.1)).2.1).length) 1 (((rDiv ((mRat c1 n1 z1).1) ((mRat c1 n1 z1).2.1) ((mRat c1 n1 z1).2.2.1) ((uRt pv ts fo c1).1) ((uRt pv ts fo c1).2.1) ((uRt pv ts fo c1).2.2.1)).2.1).map (Value.int .i64))) ∧ (Own w' gl50x2 gu50x2 gs50x2 intT (((rDiv ((mRat c1 n1 z1).1) ((mRat c1 n1 z1).2.1) ((mRat c1 n1 z1).2.2.1) ((uRt pv ts fo c1).1) ((uRt pv ts fo c1).2.1) ((uRt pv ts fo c1).2.2.1)).2.2.1).length) 1 (((rDiv ((mRat c1 n1 z1).1) ((mRat c1 n1 z1).2.1) ((mRat c1 n1 z1).2.2.1) ((uRt pv ts fo c1).1) ((uRt pv ts fo c1).2.1) ((uRt pv ts fo c1).2.2.1)).2.2.1).map (Value.int .i64))) ∧ (w39.heap.size ≤ gb50x0 ∧ gb50x0 + 1 ≤ w'.heap.size) ∧ (w39.heap.size ≤ gl50x1 ∧ gu50x1 ≤ w'.heap.size) ∧ (w39.heap.size ≤ gl50x2 ∧ gu50x2 ≤ w'.heap.size) ∧ (gu50x1 ≤ gb50x0 ∨ gb50x0 + 1 ≤ gl50x1) ∧ (gu50x2 ≤ gb50x0 ∨ gb50x0 + 1 ≤ gl50x2) ∧ (gu50x2 ≤ gl50x1 ∨ gu50x1 ≤ gl50x2)) (fun kc50 => ?_) ?_
 ·
  have f52 := (f10.ext c15).ext cb16
  have f53 := f52.chg cw18 (by omega)
  have f54 := f53.ext c39
  have f55 := f32.ext c39
  have f57 := (fb6.ext c15).ext cb16
  have f58 := f57.chg cw18 (by omega)
  have f59 := f58.ext c39
  have f60 := gw18.ext c39
  have f62 := (f14.ext c15).ext cb16
  have f63 := f62.chg cw18 (by omega)
  have f64 := f63.ext c39
  have f65 := f38.ext c39
  have f66 := f20.chg cw18 (by omega)
  have f67 := f66.ext c39
  have f68 := f19.chg cw18 (by omega)
  have f69 := f68.ext c39
  refine dx_region (fun w' => Chg 0 0 w39 w') (by kernel_rfl) (Chg.zero (Chg.drew _)) ?_
  have d70 := Chg.drew w39
  have s70 : Chg 0 0 w39 (World.drew w39) := Chg.zero (Chg.drew _)
  have y70 : (World.drew w39).heap.size = w39.heap.size := rfl
  generalize World.drew w39 = w70 at *
  have zw70 := d70.size
  refine dt 0 rfl rfl rfl rfl s70 (fun _ hS => px_load rfl ((f55.chg hS (by omega)).loadA (vs := [.string c1, .bool n1, v1]) (look_lit rfl) Tryz.isAgg48 Tryz.sizeOf48)) ?_
  refine dt 2 rfl rfl rfl rfl s70 (fun _ hS => px_load rfl ((f60.chg hS (by omega)).loadA (vs := [.bool ((uRt pv ts fo c1).1), s15, t15]) (look_lit rfl) Tryz.isAgg30 Tryz.sizeOf30)) ?_
  refine dx_eff2 1 7 rfl rfl (by kernel_rfl) ?_ ?_
  ·
   have f71 := f65.ext d70
   refine sx_call rfl rfl Tryz.call58 (c_sMoneyRat f71 (by omega)) (fun v72 w72 p72 => ?_)
   obtain ⟨s72, t72, ls72, us72, lt72, ut72, rfl, os_72, ot_72, hd72, hl72, c72⟩ := p72
   have zw72 := c72.size
   have s73 : Chg 0 0 w39 w72 := (d70.t c72)
   refine wl_nil ?_
   refine dx_next s73 ?_
   refine dx_eff2 3 7 rfl rfl (by kernel_rfl) ?_ ?_
   ·
    have f75 := (f67.ext d70).ext c72
    have f77 := (f69.ext d70).ext c72
    refine sx_call rfl rfl Tryz.call49 (c_sRatDiv os_72.sv ot_72.sv f75.sv f77.sv (by have h8 := mRat_len (c := c1) (n := n1) (z := z1); have h9 := uRt_len (pv := pv) (ts := ts) (a := fo) (b := c1); omega)) (fun v78 w78 p78 => ?_)
    obtain ⟨s78, t78, ls78, us78, lt78, ut78, rfl, os_78, ot_78, hd78, hl78, c78⟩ := p78
    have zw78 := c78.size
    have s79 : Chg 0 0 w39 w78 := ((d70.t c72).t c78)
    refine wl_nil ?_
    refine dx_next s79 ?_
    refine dt 4 rfl rfl rfl rfl s79 (fun _ hS => px_move rfl) ?_
    refine dt 5 rfl rfl rfl rfl s79 (fun _ hS => px_ex2 rfl rfl) ?_
    refine dt 6 rfl rfl rfl rfl s79 (fun _ hS => px_ex2 rfl rfl) ?_
    refine dx_eff 7 rfl (by kernel_rfl) ?_
    refine sx_alloc [.bool false, (.slice none 0 0), (.slice none 0 0)] rfl Tryz.zeroValue30 rfl (fun b80 w81 eb80 sb80 fb80 cb80 => ?_)
    have zw81 := cb80.size
    have s82 : Chg 0 0 w39 w81 := (((d70.t c72).t c78).t cb80)
    refine wl_nil ?_
    refine dx_next s82 ?_
    refine dx_eff 8 rfl (by kernel_rfl) ?_
    have f84 := ot_78.ext cb80
    have f85 := os_78.ext cb80
    refine sx_store (vs := [.bool ((rDiv ((mRat c1 n1 z1).1) ((mRat c1 n1 z1).2.1) ((mRat c1 n1 z1).2.2.1) ((uRt pv ts fo c1).1) ((uRt pv ts fo c1).2.1) ((uRt pv ts fo c1).2.2.1)).1), s78, t78]) rfl rfl fb80 rfl Tryz.sizeOf30 (nbl rfl) (one_cons rfl (one_cons f85.one (one_cons f84.one one_nil))) (fun w83 sw83 fw83 cw83 => ?_)
    have zw83 := cw83.size
    have gw83 : Blk w83 b80 [.bool ((rDiv ((mRat c1 n1 z1).1) ((mRat c1 n1 z1).2.1) ((mRat c1 n1 z1).2.2.1) ((uRt pv ts fo c1).1) ((uRt pv ts fo c1).2.1) ((uRt pv ts fo c1).2.2.1)).1), s78, t78] 30 := fw83
    have q87 := Chg.step (l := 0) (h := 0) (Chg.zero (l := 0) (h := 0) (((d70.t c72).t c78).t cb80)) cw83 (by omega)
    have s86 : Chg 0 0 w39 w83 := q87
    refine wl_nil ?_
    refine dx_next s86 ?_
    refine dt 9 rfl rfl rfl rfl s86 (fun _ hS => px_assign rfl) ?_
    refine dx_done (by kernel_rfl) ?_
    have f88 := f85.chg cw83 (by omega)
    have f89 := f84.chg cw83 (by omega)
    have q90 := Chg.step (l := 0) (h := 0) (Chg.zero (l := 0) (h := 0) (((d70.t c72).t c78).t cb80)) cw83 (by omega)
    exact q_n (kw_sub (Sub.c 2 rfl (.c 6 rfl (.c 7 rfl (.c 10 rfl (.c 11 rfl .nil))))) (kc50 _ _ ⟨b80, s78, ls78, us78, t78, lt78, ut78, rfl, q90, gw83, f88, f89, by omega, by omega, by omega, by omega, by omega, by omega⟩))
   refine sx_alloc [.bool false, (.slice none 0 0), (.slice none 0 0)] rfl Tryz.zeroValue30 rfl (fun b91 w92 eb91 sb91 fb91 cb91 => ?_)
   have zw92 := cb91.size
   have s93 : Chg 0 0 w39 w92 := ((d70.t c72).t cb91)
   refine wl_nil ?_
   refine dx_next s93 ?_
   refine dx_eff 3 rfl (by kernel_rfl) ?_
   have f94 := os_72.ext cb91
   have f95 := ot_72.ext cb91
   have f98 := ((f67.ext d70).ext c72).ext cb91
   have f101 := ((f69.ext d70).ext c72).ext cb91
   refine sx_call rfl rfl Tryz.call49 (c_sRatDiv f94.sv f95.sv f98.sv f101.sv (by have h8 := mRat_len (c := c1) (n := n1) (z := z1); have h9 := uRt_len (pv := pv) (ts := ts) (a := fo) (b := c1); omega)) (fun v102 w102 p102 => ?_)
   obtain ⟨s102, t102, ls102, us102, lt102, ut102, rfl, os_102, ot_102, hd102, hl102, c102⟩ := p102
   have zw102 := c102.size
   have s103 : Chg 0 0 w39 w102 := (((d70.t c72).t cb91).t c102)
   refine wl_nil ?_
   refine dx_next s103 ?_
   refine dt 4 rfl rfl rfl rfl s103 (fun _ hS => px_move rfl) ?_
   refine dt 5 rfl rfl rfl rfl s103 (fun _ hS => px_ex2 rfl rfl) ?_
   refine dt 6 rfl rfl rfl rfl s103 (fun _ hS => px_ex2 rfl rfl) ?_
   refine dx_eff 8 rfl (by kernel_rfl) ?_
   have f105 := fb91.ext c102
   refine sx_store (vs := [.bool ((rDiv ((mRat c1 n1 z1).1) ((mRat c1 n1 z1).2.1) ((mRat c1 n1 z1).2.2.1) ((uRt pv ts fo c1).1) ((uRt pv ts fo c1).2.1) ((uRt pv ts fo c1).2.2.1)).1), s102, t102]) rfl rfl f105 rfl Tryz.sizeOf30 (nbl rfl) (one_cons rfl (one_cons os_102.one (one_cons ot_102.one one_nil))) (fun w104 sw104 fw104 cw104 => ?_)
   have zw104 := cw104.size
   have gw104 : Blk w104 b91 [.bool ((rDiv ((mRat c1 n1 z1).1) ((mRat c1 n1 z1).2.1) ((mRat c1 n1 z1).2.2.1) ((uRt pv ts fo c1).1) ((uRt pv ts fo c1).2.1) ((uRt pv ts fo c1).2.2.1)).1), s102, t102] 30 := fw104
   have q107 := Chg.step (l := 0) (h := 0) (Chg.zero (l := 0) (h := 0) (((d70.t c72).t cb91).t c102)) cw104 (by omega)
   have s106 : Chg 0 0 w39 w104 := q107
   refine wl_nil ?_
   refine dx_next s106 ?_
   refine dt 9 rfl rfl rfl rfl s106 (fun _ hS => px_assign rfl) ?_
   refine dx_done (by kernel_rfl) ?_
   have f108 := os_102.chg cw104 (by omega)
   have f109 := ot_102.chg cw104 (by omega)
   have q110 := Chg.step (l := 0) (h := 0) (Chg.zero (l := 0) (h := 0) (((d70.t c72).t cb91).t c102)) cw104 (by omega)
   exact q_n (kw_sub (Sub.c 2 rfl (.c 6 rfl (.c 7 rfl (.c 10 rfl (.c 11 rfl .nil))))) (kc50 _ _ ⟨b91, s102, ls102, us102, t102, lt102, ut102, rfl, q110, gw104, f108, f109, by omega, by omega, by omega, by omega, by omega, by omega⟩))
  refine sx_alloc [.bool false, (.slice none 0 0), (.slice none 0 0)] rfl Tryz.zeroValue30 rfl (fun b111 w112 eb111 sb111 fb111 cb111 => ?_)
  have zw112 := cb111.size
  have s113 : Chg 0 0 w39 w112 := (d70.t cb111)
  refine wl_nil ?_
  refine dx_next s113 ?_
  refine dx_eff 1 rfl (by kernel_rfl) ?_
  have f115 := (f65.ext d70).ext cb111
  refine sx_call rfl rfl Tryz.call58 (c_sMoneyRat f115 (by omega)) (fun v116 w116 p116 => ?_)
  obtain ⟨s116, t116, ls116, us116, lt116, ut116, rfl, os_116, ot_116, hd116, hl116, c116⟩ := p116
  have zw116 := c116.size
  have s117 : Chg 0 0 w39 w116 := ((d70.t cb111).t c116)
  refine wl_nil ?_
  refine dx_next s117 ?_
  refine dx_eff 3 rfl (by kernel_rfl) ?_
  have f119 := (f67.ext d70).ext cb111
  have f120 := f119.ext c116
  have f122 := (f69.ext d70).ext cb111
  have f123 := f122.ext c116
  refine sx_call rfl rfl Tryz.call49 (c_sRatDiv os_116.sv ot_116.sv f120.sv f123.sv (by have h8 := mRat_len (c := c1) (n := n1) (z := z1); have h9 := uRt_len (pv := pv) (ts := ts) (a := fo) (b := c1); omega)) (fun v124 w124 p124 => ?_)
  obtain ⟨s124, t124, ls124, us124, lt124, ut124, rfl, os_124, ot_124, hd124, hl124, c124⟩ := p124
  have zw124 := c124.size
  have s125 : Chg 0 0 w39 w124 := (((d70.t cb111).t c116).t c124)
  refine wl_nil ?_
  refine dx_next s125 ?_
  refine dt 4 rfl rfl rfl rfl s125 (fun _ hS => px_move rfl) ?_
  refine dt 5 rfl rfl rfl rfl s125 (fun _ hS => px_ex2 rfl rfl) ?_
  refine dt 6 rfl rfl rfl rfl s125 (fun _ hS => px_ex2 rfl rfl) ?_
  refine dx_eff 8 rfl (by kernel_rfl) ?_
  have f128 := (fb111.ext c116).ext c124
  refine sx_store (vs := [.bool ((rDiv ((mRat c1 n1 z1).1) ((mRat c1 n1 z1).2.1) ((mRat c1 n1 z1).2.2.1) ((uRt pv ts fo c1).1) ((uRt pv ts fo c1).2.1) ((uRt pv ts fo c1).2.2.1)).1), s124, t124]) rfl rfl f128 rfl Tryz.sizeOf30 (nbl rfl) (one_cons rfl (one_cons os_124.one (one_cons ot_124.one one_nil))) (fun w126 sw126 fw126 cw126 => ?_)
  have zw126 := cw126.size
  have gw126 : Blk w126 b111 [.bool ((rDiv ((mRat c1 n1 z1).1) ((mRat c1 n1 z1).2.1) ((mRat c1 n1 z1).2.2.1) ((uRt pv ts fo c1).1) ((uRt pv ts fo c1).2.1) ((uRt pv ts fo c1).2.2.1)).1), s124, t124] 30 := fw126
  have q130 := Chg.step (l := 0) (h := 0) (Chg.zero (l := 0) (h := 0) (((d70.t cb111).t c116).t c124)) cw126 (by omega)
  have s129 : Chg 0 0 w39 w126 := q130
  refine wl_nil ?_
  refine dx_next s129 ?_
  refine dt 9 rfl rfl rfl rfl s129 (fun _ hS => px_assign rfl) ?_
  refine dx_done (by kernel_rfl) ?_
  have f131 := os_124.chg cw126 (by omega)
  have f132 := ot_124.chg cw126 (by omega)
  have q133 := Chg.step (l := 0) (h := 0) (Chg.zero (l := 0) (h := 0) (((d70.t cb111).t c116).t c124)) cw126 (by omega)
  exact q_n (kw_sub (Sub.c 2 rfl (.c 6 rfl (.c 7 rfl (.c 10 rfl (.c 11 rfl .nil))))) (kc50 _ _ ⟨b111, s124, ls124, us124, t124, lt124, ut124, rfl, q133, gw126, f131, f132, by omega, by omega, by omega, by omega, by omega, by omega⟩))
 rintro fr w'50 ⟨gb50x0, gs50x1, gl50x1, gu50x1, gs50x2, gl50x2, gu50x2, rfl, cw'50, xgb50x0, xgs50x1, xgs50x2, ygb50x0, ygl50x1, ygl50x2, dgl50x1xgb50x0, dgl50x2xgb50x0, dgl50x2xgl50x1⟩
 have zw'50 := cw'50.size
 refine sx_seq fun K134 k134 => sx_region ?_
 refine mv rfl rfl (sp rfl (px_load rfl (xgb50x0.loadA (vs := [.bool ((rDiv ((mRat c1 n1 z1).1) ((mRat c1 n1 z1).2.1) ((mRat c1 n1 z1).2.2.1) ((uRt pv ts fo c1).1) ((uRt pv ts fo c1).2.1) ((uRt pv ts fo c1).2.2.1)).1), gs50x1, gs50x2]) (look_lit rfl) Tryz.isAgg30 Tryz.sizeOf30)) ?_)
 refine sx_call rfl rfl Tryz.call62 (c_sRatMoney xgs50x1.sv xgs50x2.sv (by have h8 := rDiv_len (n1 := (mRat c1 n1 z1).1) (z1 := (mRat c1 n1 z1).2.1) (y1 := (mRat c1 n1 z1).2.2.1) (n2 := (uRt pv ts fo c1).1) (z2 := (uRt pv ts fo c1).2.1) (y2 := (uRt pv ts fo c1).2.2.1); omega)) (fun v135 w135 p135 => ?_)
 obtain ⟨s135, t135, u135, ls135, us135, lt135, ut135, lu135, uu135, rfl, os_135, ot_135, ou_135, hd135, hl135, c135⟩ := p135
 have zw135 := c135.size
 refine mv rfl rfl (sp rfl (px_ex3 rfl rfl) ?_)
 refine sp rfl (px_ex3 rfl rfl) ?_
 refine sp rfl (px_ex3 rfl rfl) ?_
 refine sx_alloc [.string (⟨#[]⟩), .bool false, (.slice none 0 0)] rfl Tryz.zeroValue48 rfl (fun b136 w137 eb136 sb136 fb136 cb136 => ?_)
 have zw137 := cb136.size
 refine sx_alloc [.bool false, (.slice none 0 0), (.slice none 0 0)] rfl Tryz.zeroValue30 rfl (fun b138 w139 eb138 sb138 fb138 cb138 => ?_)
 have zw139 := cb138.size
 have f141 := fb136.ext cb138
 have f142 := os_135.ext cb136
 have f143 := f142.ext cb138
 refine sx_store (vs := [.string ((rMon fo ((rDiv ((mRat c1 n1 z1).1) ((mRat c1 n1 z1).2.1) ((mRat c1 n1 z1).2.2.1) ((uRt pv ts fo c1).1) ((uRt pv ts fo c1).2.1) ((uRt pv ts fo c1).2.2.1)).1) ((rDiv ((mRat c1 n1 z1).1) ((mRat c1 n1 z1).2.1) ((mRat c1 n1 z1).2.2.1) ((uRt pv ts fo c1).1) ((uRt pv ts fo c1).2.1) ((uRt pv ts fo c1).2.2.1)).2.1) ((rDiv ((mRat c1 n1 z1).1) ((mRat c1 n1 z1).2.1) ((mRat c1 n1 z1).2.2.1) ((uRt pv ts fo c1).1) ((uRt pv ts fo c1).2.1) ((uRt pv ts fo c1).2.2.1)).2.2.1) (3 : Int)).1.1), .bool ((rMon fo ((rDiv ((mRat c1 n1 z1).1) ((mRat c1 n1 z1).2.1) ((mRat c1 n1 z1).2.2.1) ((uRt pv ts fo c1).1) ((uRt pv ts fo c1).2.1) ((uRt pv ts fo c1).2.2.1)).1) ((rDiv ((mRat c1 n1 z1).1) ((mRat c1 n1 z1).2.1) ((mRat c1 n1 z1).2.2.1) ((uRt pv ts fo c1).1) ((uRt pv ts fo c1).2.1) ((uRt pv ts fo c1).2.2.1)).2.1) ((rDiv ((mRat c1 n1 z1).1) ((mRat c1 n1 z1).2.1) ((mRat c1 n1 z1).2.2.1) ((uRt pv ts fo c1).1) ((uRt pv ts fo c1).2.1) ((uRt pv ts fo c1).2.2.1)).2.2.1) (3 : Int)).1.2.1), s135]) rfl rfl f141 rfl Tryz.sizeOf48 (nbl rfl) (one_cons rfl (one_cons rfl (one_cons f143.one one_nil))) (fun w140 sw140 fw140 cw140 => ?_)
 have zw140 := cw140.size
 have gw140 : Blk w140 b136 [.string ((rMon fo ((rDiv ((mRat c1 n1 z1).1) ((mRat c1 n1 z1).2.1) ((mRat c1 n1 z1).2.2.1) ((uRt pv ts fo c1).1) ((uRt pv ts fo c1).2.1) ((uRt pv ts fo c1).2.2.1)).1) ((rDiv ((mRat c1 n1 z1).1) ((mRat c1 n1 z1).2.1) ((mRat c1 n1 z1).2.2.1) ((uRt pv ts fo c1).1) ((uRt pv ts fo c1).2.1) ((uRt pv ts fo c1).2.2.1)).2.1) ((rDiv ((mRat c1 n1 z1).1) ((mRat c1 n1 z1).2.1) ((mRat c1 n1 z1).2.2.1) ((uRt pv ts fo c1).1) ((uRt pv ts fo c1).2.1) ((uRt pv ts fo c1).2.2.1)).2.2.1) (3 : Int)).1.1), .bool ((rMon fo ((rDiv ((mRat c1 n1 z1).1) ((mRat c1 n1 z1).2.1) ((mRat c1 n1 z1).2.2.1) ((uRt pv ts fo c1).1) ((uRt pv ts fo c1).2.1) ((uRt pv ts fo c1).2.2.1)).1) ((rDiv ((mRat c1 n1 z1).1) ((mRat c1 n1 z1).2.1) ((mRat c1 n1 z1).2.2.1) ((uRt pv ts fo c1).1) ((uRt pv ts fo c1).2.1) ((uRt pv ts fo c1).2.2.1)).2.1) ((rDiv ((mRat c1 n1 z1).1) ((mRat c1 n1 z1).2.1) ((mRat c1 n1 z1).2.2.1) ((uRt pv ts fo c1).1) ((uRt pv ts fo c1).2.1) ((uRt pv ts fo c1).2.2.1)).2.2.1) (3 : Int)).1.2.1), s135] 48 := fw140
 have f145 := fb138.chg cw140 (by omega)
 have f146 := ou_135.ext cb136
 have f147 := f146.ext cb138
 have f148 := f147.chg cw140 (by omega)
 have f149 := ot_135.ext cb136
 have f150 := f149.ext cb138
 have f151 := f150.chg cw140 (by omega)
 refine sx_store (vs := [.bool ((rMon fo ((rDiv ((mRat c1 n1 z1).1) ((mRat c1 n1 z1).2.1) ((mRat c1 n1 z1).2.2.1) ((uRt pv ts fo c1).1) ((uRt pv ts fo c1).2.1) ((uRt pv ts fo c1).2.2.1)).1) ((rDiv ((mRat c1 n1 z1).1) ((mRat c1 n1 z1).2.1) ((mRat c1 n1 z1).2.2.1) ((uRt pv ts fo c1).1) ((uRt pv ts fo c1).2.1) ((uRt pv ts fo c1).2.2.1)).2.1) ((rDiv ((mRat c1 n1 z1).1) ((mRat c1 n1 z1).2.1) ((mRat c1 n1 z1).2.2.1) ((uRt pv ts fo c1).1) ((uRt pv ts fo c1).2.1) ((uRt pv ts fo c1).2.2.1)).2.2.1) (3 : Int)).2.1.1), t135, u135]) rfl rfl f145 rfl Tryz.sizeOf30 (nbl rfl) (one_cons rfl (one_cons f151.one (one_cons f148.one one_nil))) (fun w144 sw144 fw144 cw144 => ?_)
 have zw144 := cw144.size
 have gw144 : Blk w144 b138 [.bool ((rMon fo ((rDiv ((mRat c1 n1 z1).1) ((mRat c1 n1 z1).2.1) ((mRat c1 n1 z1).2.2.1) ((uRt pv ts fo c1).1) ((uRt pv ts fo c1).2.1) ((uRt pv ts fo c1).2.2.1)).1) ((rDiv ((mRat c1 n1 z1).1) ((mRat c1 n1 z1).2.1) ((mRat c1 n1 z1).2.2.1) ((uRt pv ts fo c1).1) ((uRt pv ts fo c1).2.1) ((uRt pv ts fo c1).2.2.1)).2.1) ((rDiv ((mRat c1 n1 z1).1) ((mRat c1 n1 z1).2.1) ((mRat c1 n1 z1).2.2.1) ((uRt pv ts fo c1).1) ((uRt pv ts fo c1).2.1) ((uRt pv ts fo c1).2.2.1)).2.2.1) (3 : Int)).2.1.1), t135, u135] 30 := fw144
 refine av rfl rfl (wl_nil (q_n (k134 _ _ ?_)))
 refine sx_sub (Sub.c 6 rfl (.c 7 rfl (.c 11 rfl (.c 12 rfl (.c 14 rfl .nil))))) ?_
 refine sx_seq fun K152 k152 => ?_
 refine sx_seq fun K153 k153 => sx_region ?_
 refine mv rfl rfl (sp rfl (px_not rfl) ?_)
 refine mv rfl rfl ?_
 refine sx_tmpB (t := 47) rfl (fun h52 => ?_) (fun h52 => ?_)
 ·
  refine sx_guardF rfl rfl rfl rfl rfl rfl ?_
  refine sx_guardF rfl rfl rfl rfl rfl rfl ?_
  refine sp rfl (px_pick rfl rfl) ?_
  refine wl_nil (q_n (k153 _ _ ?_))
  refine sx_condT rfl ?_
  refine sx_seq fun K154 k154 => sx_region ?_
  refine sp rfl (px_build rfl (xbld48x  _)) ?_
  have f157 := (fb6.ext c15).ext cb16
  have f158 := f157.chg cw18 (by omega)
  have f160 := (f158.ext c39).ext cw'50
  have f162 := (f160.ext c135).ext cb136
  have f163 := f162.ext cb138
  have f164 := f163.chg cw140 (by omega)
  have f165 := f164.chg cw144 (by omega)
  refine sx_store (vs := [.string (⟨#[]⟩), .bool false, (.slice none 0 0)]) rfl rfl f165 rfl Tryz.sizeOf48 (nbl rfl) (o3 rfl rfl rfl) (fun w155 sw155 fw155 cw155 => ?_)
  have zw155 := cw155.size
  have gw155 : Blk w155 b6 [.string (⟨#[]⟩), .bool false, (.slice none 0 0)] 48 := fw155
  refine av rfl rfl (wl_nil (q_n (k154 _ _ ?_)))
  refine sx_retc ?_
  refine q_r (sx_ret2 Tryz.results24 ⟨_, rfl, gw155.loadA (vs := [.string (⟨#[]⟩), .bool false, (.slice none 0 0)]) (look_lit rfl) Tryz.isAgg48 Tryz.sizeOf48⟩ rfl ?_)
  have hno : need pv ts c1 n1 z1 fo = noM := by first | exact absurd (bnot_t h52) (by rw [hw.1]; decide) | exact hw.2.2 (bnot_t h52x1)
  rw [hno]
  have q166 := Chg.step (l := 0) (h := 0) (Chg.zero (l := 0) (h := 0) ((((cb2.t cb4).t cb6).t c15).t cb16)) cw18 (by omega)
  have q167 := Chg.step (l := 0) (h := 0) q166 ((((c39.t cw'50).t c135).t cb136).t cb138) (by omega)
  have q168 := Chg.step (l := 0) (h := 0) q167 cw140 (by omega)
  have q169 := Chg.step (l := 0) (h := 0) q168 cw144 (by omega)
  have q170 := Chg.step (l := 0) (h := 0) q169 cw155 (by omega)
  exact ⟨_, rfl, Own.nil _ _ _ _ _, by simp [noM], q170⟩
 refine sx_guardT rfl rfl rfl ?_
 refine mv rfl rfl ?_
 refine sx_guardT rfl rfl rfl ?_
 refine sp rfl (px_not rfl) ?_
 refine sp rfl (px_pick rfl rfl) ?_
 refine wl_nil (q_n (k153 _ _ ?_))
 refine sx_condB rfl (fun h52x1 => ?_) (fun h52x1 => ?_)
 ·
  refine sx_seq fun K171 k171 => sx_region ?_
  refine sp rfl (px_build rfl (xbld48x  _)) ?_
  have f174 := (fb6.ext c15).ext cb16
  have f175 := f174.chg cw18 (by omega)
  have f177 := (f175.ext c39).ext cw'50
  have f179 := (f177.ext c135).ext cb136
  have f180 := f179.ext cb138
  have f181 := f180.chg cw140 (by omega)
  have f182 := f181.chg cw144 (by omega)
  refine sx_store (vs := [.string (⟨#[]⟩), .bool false, (.slice none 0 0)]) rfl rfl f182 rfl Tryz.sizeOf48 (nbl rfl) (o3 rfl rfl rfl) (fun w172 sw172 fw172 cw172 => ?_)
  have zw172 := cw172.size
  have gw172 : Blk w172 b6 [.string (⟨#[]⟩), .bool false, (.slice none 0 0)] 48 := fw172
  refine av rfl rfl (wl_nil (q_n (k171 _ _ ?_)))
  refine sx_retc ?_
  refine q_r (sx_ret2 Tryz.results24 ⟨_, rfl, gw172.loadA (vs := [.string (⟨#[]⟩), .bool false, (.slice none 0 0)]) (look_lit rfl) Tryz.isAgg48 Tryz.sizeOf48⟩ rfl ?_)
  have hno : need pv ts c1 n1 z1 fo = noM := by first | exact absurd (bnot_t h52) (by rw [hw.1]; decide) | exact hw.2.2 (bnot_t h52x1)
  rw [hno]
  have q183 := Chg.step (l := 0) (h := 0) (Chg.zero (l := 0) (h := 0) ((((cb2.t cb4).t cb6).t c15).t cb16)) cw18 (by omega)
  have q184 := Chg.step (l := 0) (h := 0) q183 ((((c39.t cw'50).t c135).t cb136).t cb138) (by omega)
  have q185 := Chg.step (l := 0) (h := 0) q184 cw140 (by omega)
  have q186 := Chg.step (l := 0) (h := 0) q185 cw144 (by omega)
  have q187 := Chg.step (l := 0) (h := 0) q186 cw172 (by omega)
  exact ⟨_, rfl, Own.nil _ _ _ _ _, by simp [noM], q187⟩
 refine sx_skip ?_
 refine q_n (k152 _ _ ?_)
 refine sx_seq fun K188 k188 => sx_region ?_
 have f189 := gw140.chg cw144 (by omega)
 refine sp rfl (px_load rfl (f189.loadA (vs := [.string ((rMon fo ((rDiv ((mRat c1 n1 z1).1) ((mRat c1 n1 z1).2.1) ((mRat c1 n1 z1).2.2.1) ((uRt pv ts fo c1).1) ((uRt pv ts fo c1).2.1) ((uRt pv ts fo c1).2.2.1)).1) ((rDiv ((mRat c1 n1 z1).1) ((mRat c1 n1 z1).2.1) ((mRat c1 n1 z1).2.2.1) ((uRt pv ts fo c1).1) ((uRt pv ts fo c1).2.1) ((uRt pv ts fo c1).2.2.1)).2.1) ((rDiv ((mRat c1 n1 z1).1) ((mRat c1 n1 z1).2.1) ((mRat c1 n1 z1).2.2.1) ((uRt pv ts fo c1).1) ((uRt pv ts fo c1).2.1) ((uRt pv ts fo c1).2.2.1)).2.2.1) (3 : Int)).1.1), .bool ((rMon fo ((rDiv ((mRat c1 n1 z1).1) ((mRat c1 n1 z1).2.1) ((mRat c1 n1 z1).2.2.1) ((uRt pv ts fo c1).1) ((uRt pv ts fo c1).2.1) ((uRt pv ts fo c1).2.2.1)).1) ((rDiv ((mRat c1 n1 z1).1) ((mRat c1 n1 z1).2.1) ((mRat c1 n1 z1).2.2.1) ((uRt pv ts fo c1).1) ((uRt pv ts fo c1).2.1) ((uRt pv ts fo c1).2.2.1)).2.1) ((rDiv ((mRat c1 n1 z1).1) ((mRat c1 n1 z1).2.1) ((mRat c1 n1 z1).2.2.1) ((uRt pv ts fo c1).1) ((uRt pv ts fo c1).2.1) ((uRt pv ts fo c1).2.2.1)).2.2.1) (3 : Int)).1.2.1), s135]) (look_lit rfl) Tryz.isAgg48 Tryz.sizeOf48)) ?_
 have f192 := (fb6.ext c15).ext cb16
 have f193 := f192.chg cw18 (by omega)
 have f195 := (f193.ext c39).ext cw'50
 have f197 := (f195.ext c135).ext cb136
 have f198 := f197.ext cb138
 have f199 := f198.chg cw140 (by omega)
 have f200 := f199.chg cw144 (by omega)
 have f201 := f143.chg cw140 (by omega)
 have f202 := f201.chg cw144 (by omega)
 refine sx_store (vs := [.string ((rMon fo ((rDiv ((mRat c1 n1 z1).1) ((mRat c1 n1 z1).2.1) ((mRat c1 n1 z1).2.2.1) ((uRt pv ts fo c1).1) ((uRt pv ts fo c1).2.1) ((uRt pv ts fo c1).2.2.1)).1) ((rDiv ((mRat c1 n1 z1).1) ((mRat c1 n1 z1).2.1) ((mRat c1 n1 z1).2.2.1) ((uRt pv ts fo c1).1) ((uRt pv ts fo c1).2.1) ((uRt pv ts fo c1).2.2.1)).2.1) ((rDiv ((mRat c1 n1 z1).1) ((mRat c1 n1 z1).2.1) ((mRat c1 n1 z1).2.2.1) ((uRt pv ts fo c1).1) ((uRt pv ts fo c1).2.1) ((uRt pv ts fo c1).2.2.1)).2.2.1) (3 : Int)).1.1), .bool ((rMon fo ((rDiv ((mRat c1 n1 z1).1) ((mRat c1 n1 z1).2.1) ((mRat c1 n1 z1).2.2.1) ((uRt pv ts fo c1).1) ((uRt pv ts fo c1).2.1) ((uRt pv ts fo c1).2.2.1)).1) ((rDiv ((mRat c1 n1 z1).1) ((mRat c1 n1 z1).2.1) ((mRat c1 n1 z1).2.2.1) ((uRt pv ts fo c1).1) ((uRt pv ts fo c1).2.1) ((uRt pv ts fo c1).2.2.1)).2.1) ((rDiv ((mRat c1 n1 z1).1) ((mRat c1 n1 z1).2.1) ((mRat c1 n1 z1).2.2.1) ((uRt pv ts fo c1).1) ((uRt pv ts fo c1).2.1) ((uRt pv ts fo c1).2.2.1)).2.2.1) (3 : Int)).1.2.1), s135]) rfl rfl f200 rfl Tryz.sizeOf48 (nbl rfl) (one_cons rfl (one_cons rfl (one_cons f202.one one_nil))) (fun w190 sw190 fw190 cw190 => ?_)
 have zw190 := cw190.size
 have gw190 : Blk w190 b6 [.string ((rMon fo ((rDiv ((mRat c1 n1 z1).1) ((mRat c1 n1 z1).2.1) ((mRat c1 n1 z1).2.2.1) ((uRt pv ts fo c1).1) ((uRt pv ts fo c1).2.1) ((uRt pv ts fo c1).2.2.1)).1) ((rDiv ((mRat c1 n1 z1).1) ((mRat c1 n1 z1).2.1) ((mRat c1 n1 z1).2.2.1) ((uRt pv ts fo c1).1) ((uRt pv ts fo c1).2.1) ((uRt pv ts fo c1).2.2.1)).2.1) ((rDiv ((mRat c1 n1 z1).1) ((mRat c1 n1 z1).2.1) ((mRat c1 n1 z1).2.2.1) ((uRt pv ts fo c1).1) ((uRt pv ts fo c1).2.1) ((uRt pv ts fo c1).2.2.1)).2.2.1) (3 : Int)).1.1), .bool ((rMon fo ((rDiv ((mRat c1 n1 z1).1) ((mRat c1 n1 z1).2.1) ((mRat c1 n1 z1).2.2.1) ((uRt pv ts fo c1).1) ((uRt pv ts fo c1).2.1) ((uRt pv ts fo c1).2.2.1)).1) ((rDiv ((mRat c1 n1 z1).1) ((mRat c1 n1 z1).2.1) ((mRat c1 n1 z1).2.2.1) ((uRt pv ts fo c1).1) ((uRt pv ts fo c1).2.1) ((uRt pv ts fo c1).2.2.1)).2.1) ((rDiv ((mRat c1 n1 z1).1) ((mRat c1 n1 z1).2.1) ((mRat c1 n1 z1).2.2.1) ((uRt pv ts fo c1).1) ((uRt pv ts fo c1).2.1) ((uRt pv ts fo c1).2.2.1)).2.2.1) (3 : Int)).1.2.1), s135] 48 := fw190
 refine av rfl rfl (wl_nil (q_n (k188 _ _ ?_)))
 refine sx_retc ?_
 refine sx_ret2 Tryz.results24 ⟨_, rfl, gw190.loadA (vs := [.string ((rMon fo ((rDiv ((mRat c1 n1 z1).1) ((mRat c1 n1 z1).2.1) ((mRat c1 n1 z1).2.2.1) ((uRt pv ts fo c1).1) ((uRt pv ts fo c1).2.1) ((uRt pv ts fo c1).2.2.1)).1) ((rDiv ((mRat c1 n1 z1).1) ((mRat c1 n1 z1).2.1) ((mRat c1 n1 z1).2.2.1) ((uRt pv ts fo c1).1) ((uRt pv ts fo c1).2.1) ((uRt pv ts fo c1).2.2.1)).2.1) ((rDiv ((mRat c1 n1 z1).1) ((mRat c1 n1 z1).2.1) ((mRat c1 n1 z1).2.2.1) ((uRt pv ts fo c1).1) ((uRt pv ts fo c1).2.1) ((uRt pv ts fo c1).2.2.1)).2.2.1) (3 : Int)).1.1), .bool ((rMon fo ((rDiv ((mRat c1 n1 z1).1) ((mRat c1 n1 z1).2.1) ((mRat c1 n1 z1).2.2.1) ((uRt pv ts fo c1).1) ((uRt pv ts fo c1).2.1) ((uRt pv ts fo c1).2.2.1)).1) ((rDiv ((mRat c1 n1 z1).1) ((mRat c1 n1 z1).2.1) ((mRat c1 n1 z1).2.2.1) ((uRt pv ts fo c1).1) ((uRt pv ts fo c1).2.1) ((uRt pv ts fo c1).2.2.1)).2.1) ((rDiv ((mRat c1 n1 z1).1) ((mRat c1 n1 z1).2.1) ((mRat c1 n1 z1).2.2.1) ((uRt pv ts fo c1).1) ((uRt pv ts fo c1).2.1) ((uRt pv ts fo c1).2.2.1)).2.2.1) (3 : Int)).1.2.1), s135]) (look_lit rfl) Tryz.isAgg48 Tryz.sizeOf48⟩ rfl ?_
 rw [← hw.2.1 (bnot_f h52x1)]
 have q203 := Chg.step (l := 0) (h := 0) (Chg.zero (l := 0) (h := 0) ((((cb2.t cb4).t cb6).t c15).t cb16)) cw18 (by omega)
 have q204 := Chg.step (l := 0) (h := 0) q203 ((((c39.t cw'50).t c135).t cb136).t cb138) (by omega)
 have q205 := Chg.step (l := 0) (h := 0) q204 cw140 (by omega)
 have q206 := Chg.step (l := 0) (h := 0) q205 cw144 (by omega)
 have q207 := Chg.step (l := 0) (h := 0) q206 cw190 (by omega)
 have f208 := f202.chg cw190 (by omega)
 exact ⟨_, rfl, (Own.mono f208 (by omega) (by omega)), rMon_len.1, q207⟩

theorem c_currencyOf {w : World} {s : ByteArray} (hG0 : Glob w) :
  Ret Tryz.prog 91 [.string s] w fun v w' => v = .tuple #[.agg #[.string ((curOf s).code), .string ((curOf s).number), .int .i64 ((curOf s).places), .int .i64 ((curOf s).cash)], .bool (decide (Known s))] ∧ Chg 0 0 w w' := by
 refine sx_enter Tryz.func91 rfl Tryz.ntmps91 (nbl rfl) ?_
 refine sx_seq fun K1 k1 => sx_region ?_
 refine sx_alloc [.string (⟨#[]⟩), .string (⟨#[]⟩), .int .i64 0, .int .i64 0] rfl Tryz.zeroValue112 rfl (fun b2 w3 eb2 sb2 fb2 cb2 => ?_)
 have zw3 := cb2.size
 refine av rfl rfl (wl_nil (q_n (k1 _ _ ?_)))
 refine sx_seq fun K4 k4 => ?_
 refine sx_seq fun K5 k5 => sx_region ?_
 have f6 := hG0.ext cb2
 refine sp rfl (px_load rfl (Glob.load f6 Tryz.isAgg138 Tryz.sizeOf138)) ?_
 refine mv rfl rfl (wl_nil (q_n (k5 _ _ ?_)))
 refine sx_block ?_
 refine sx_loop (fun mm aa w' => ∃ (k : Nat), Agr 17 [(0, .string s), (2, .pointer (some ⟨b2, 0, none⟩)), (6, .agg (crCells tabI).toArray), (7, .int .i64 ↑k)] aa ∧ Chg 0 0 w3 w' ∧ (mm = 20 - k) ∧ (k ≤ 20) ∧ (∀ i, i < k → ¬ (tabI.getD i cr0).code = s)) (20) (fun a ha => ⟨0, ha.sub (Sub.c 0 rfl (.c 2 rfl (.c 6 rfl (.c 7 (look_int (t := 7) rfl (by first | omega | simp)) .nil)))), Chg.refl _ _ _, rfl, by omega, fun i h => by omega⟩) ?_
 rintro mm aa wl7 ⟨k, hAwl7, cwl7, hm, hk, hn⟩
 refine (show cw Tryz.prog 17 _ _ _ wl7 from ?_) aa hAwl7
 clear hAwl7
 have zwl7 := cwl7.size
 refine sx_seq fun K8 k8 => sx_region ?_
 refine sp rfl (px_lt rfl rfl) ?_
 refine wl_nil (q_n (k8 _ _ ?_))
 refine sx_seq fun K9 k9 => ?_
 refine sx_condP rfl (fun h39 => ?_) (fun h39 => ?_)
 ·
  refine sx_skip ?_
  refine q_n (k9 _ _ ?_)
  refine sx_seq fun K10 k10 => ?_
  refine sx_block ?_
  refine sx_seq fun K11 k11 => sx_region ?_
  refine sp rfl (px_indexCr (l := tabI) (j := k) rfl rfl (by omega) Tryz.underlying138 rfl Tryz.sizeOf112 Tryz.isAgg112 (by rw [show tabI.length = 20 from rfl]; omega)) ?_
  refine sx_alloc [.string (⟨#[]⟩), .string (⟨#[]⟩), .int .i64 0, .int .i64 0] rfl Tryz.zeroValue112 rfl (fun b12 w13 eb12 sb12 fb12 cb12 => ?_)
  have zw13 := cb12.size
  refine sx_store (vs := [.string ((tabI.getD k cr0).code), .string ((tabI.getD k cr0).number), .int .i64 ((tabI.getD k cr0).places), .int .i64 ((tabI.getD k cr0).cash)]) rfl rfl fb12 rfl Tryz.sizeOf112 (nbl rfl) (one_cons rfl (o3 rfl rfl rfl)) (fun w14 sw14 fw14 cw14 => ?_)
  have zw14 := cw14.size
  have gw14 : Blk w14 b12 [.string ((tabI.getD k cr0).code), .string ((tabI.getD k cr0).number), .int .i64 ((tabI.getD k cr0).places), .int .i64 ((tabI.getD k cr0).cash)] 112 := fw14
  refine wl_nil (q_n (k11 _ _ ?_))
  refine sx_seq fun K15 k15 => sx_region ?_
  refine sp rfl (px_field rfl xfld112x0) ?_
  refine sp rfl (px_load rfl (gw14.load1 rfl Tryz.isAgg9)) ?_
  refine mv rfl rfl (sp rfl (px_eqS rfl rfl) ?_)
  refine wl_nil (q_n (k15 _ _ ?_))
  refine sx_condP rfl (fun h40 => ?_) (fun h40 => ?_)
  ·
   refine sx_seq fun K16 k16 => sx_region ?_
   refine sp rfl (px_load rfl (gw14.loadA (vs := [.string ((tabI.getD k cr0).code), .string ((tabI.getD k cr0).number), .int .i64 ((tabI.getD k cr0).places), .int .i64 ((tabI.getD k cr0).cash)]) (look_lit rfl) Tryz.isAgg112 Tryz.sizeOf112)) ?_
   have f18 := fb2.ext cwl7
   have f19 := f18.ext cb12
   have f20 := f19.chg cw14 (by omega)
   refine sx_store (vs := [.string ((tabI.getD k cr0).code), .string ((tabI.getD k cr0).number), .int .i64 ((tabI.getD k cr0).places), .int .i64 ((tabI.getD k cr0).cash)]) rfl rfl f20 rfl Tryz.sizeOf112 (nbl rfl) (one_cons rfl (o3 rfl rfl rfl)) (fun w17 sw17 fw17 cw17 => ?_)
   have zw17 := cw17.size
   have gw17 : Blk w17 b2 [.string ((tabI.getD k cr0).code), .string ((tabI.getD k cr0).number), .int .i64 ((tabI.getD k cr0).places), .int .i64 ((tabI.getD k cr0).cash)] 112 := fw17
   refine av rfl rfl (wl_nil (q_n (k16 _ _ ?_)))
   refine sx_retc ?_
   refine q_br (q_r (q_r (q_br (q_r (sx_ret2 Tryz.results91 ⟨_, rfl, gw17.loadA (vs := [.string ((tabI.getD k cr0).code), .string ((tabI.getD k cr0).number), .int .i64 ((tabI.getD k cr0).places), .int .i64 ((tabI.getD k cr0).cash)]) (look_lit rfl) Tryz.isAgg112 Tryz.sizeOf112⟩ rfl ?_)))))
   have e := curOf_some (by rw [show tabI.length = 20 from rfl]; omega) hn h40
   have e2 := known_some (by rw [show tabI.length = 20 from rfl]; omega) hn h40
   rw [e]
   have q21 := Chg.step (l := 0) (h := 0) (Chg.zero (l := 0) (h := 0) ((cb2.t cwl7).t cb12)) cw14 (by omega)
   have q22 := Chg.step (l := 0) (h := 0) q21 cw17 (by omega)
   exact ⟨by simp [e2], q22⟩
  refine sx_skip ?_
  refine q_bn (q_n (k10 _ _ ?_))
  refine sx_region ?_
  refine sp rfl (px_add rfl rfl (by omega)) ?_
  refine mv rfl rfl (wl_nil ?_)
  have q23 := Chg.step (l := 0) (h := 0) (Chg.zero (l := 0) (h := 0) (cwl7.t cb12)) cw14 (by omega)
  exact fun a ha => ⟨_, by omega, (k + 1), ha.sub (Sub.c 0 rfl (.c 2 rfl (.c 6 rfl (.c 7 (look_int (t := 7) rfl (by first | omega | simp)) .nil)))), q23, rfl, by omega, upto_succ hn h40⟩
 refine sx_exit ?_
 refine q_e (q_e (q_bx (q_n (k4 _ _ ?_))))
 refine sx_seq fun K24 k24 => sx_region ?_
 refine sp rfl (px_build rfl (xbld112x  _)) ?_
 have f26 := fb2.ext cwl7
 refine sx_store (vs := [.string (⟨#[]⟩), .string (⟨#[]⟩), .int .i64 0, .int .i64 0]) rfl rfl f26 rfl Tryz.sizeOf112 (nbl rfl) (one_cons rfl (o3 rfl rfl rfl)) (fun w25 sw25 fw25 cw25 => ?_)
 have zw25 := cw25.size
 have gw25 : Blk w25 b2 [.string (⟨#[]⟩), .string (⟨#[]⟩), .int .i64 0, .int .i64 0] 112 := fw25
 refine av rfl rfl (wl_nil (q_n (k24 _ _ ?_)))
 refine sx_retc ?_
 refine sx_ret2 Tryz.results91 ⟨_, rfl, gw25.loadA (vs := [.string (⟨#[]⟩), .string (⟨#[]⟩), .int .i64 0, .int .i64 0]) (look_lit rfl) Tryz.isAgg112 Tryz.sizeOf112⟩ rfl ?_
 have e := curOf_none (s := s) (fun i hi => hn i (by rw [show tabI.length = 20 from rfl] at hi; omega))
 have e2 := known_none (s := s) (fun i hi => hn i (by rw [show tabI.length = 20 from rfl] at hi; omega))
 rw [e]
 have q27 := Chg.step (l := 0) (h := 0) (Chg.zero (l := 0) (h := 0) (cb2.t cwl7)) cw25 (by omega)
 exact ⟨by simp [e2, cr0], q27⟩

theorem c_iCurKnown {w : World} {s : ByteArray} (hG0 : Glob w) :
  Ret Tryz.prog 79 [.string s] w fun v w' => v = .bool (decide (Known s)) ∧ Chg 0 0 w w' := by
 refine sx_enter Tryz.func79 rfl Tryz.ntmps79 (nbl rfl) ?_
 refine sx_seq fun K1 k1 => sx_region ?_
 refine av rfl rfl (wl_nil (q_n (k1 _ _ ?_)))
 refine sx_seq fun K2 k2 => sx_region ?_
 refine mv rfl rfl (sx_call rfl rfl Tryz.call91 (c_currencyOf hG0) (fun v3 w3 p3 => ?_))
 obtain ⟨rfl, c3⟩ := p3
 have zw3 := c3.size
 refine mv rfl rfl (sp rfl (px_ex2 rfl rfl) ?_)
 refine sp rfl (px_ex2 rfl rfl) ?_
 refine sx_alloc [.string (⟨#[]⟩), .string (⟨#[]⟩), .int .i64 0, .int .i64 0] rfl Tryz.zeroValue112 rfl (fun b4 w5 eb4 sb4 fb4 cb4 => ?_)
 have zw5 := cb4.size
 refine sx_store (vs := [.string ((curOf s).code), .string ((curOf s).number), .int .i64 ((curOf s).places), .int .i64 ((curOf s).cash)]) rfl rfl fb4 rfl Tryz.sizeOf112 (nbl rfl) (one_cons rfl (o3 rfl rfl rfl)) (fun w6 sw6 fw6 cw6 => ?_)
 have zw6 := cw6.size
 have gw6 : Blk w6 b4 [.string ((curOf s).code), .string ((curOf s).number), .int .i64 ((curOf s).places), .int .i64 ((curOf s).cash)] 112 := fw6
 refine av rfl rfl (wl_nil (q_n (k2 _ _ ?_)))
 refine sx_seq fun K7 k7 => sx_region ?_
 refine mv rfl rfl (av rfl rfl (wl_nil (q_n (k7 _ _ ?_))))
 refine sx_retc ?_
 refine sx_ret1 Tryz.results79 rfl ?_
 have q8 := Chg.step (l := 0) (h := 0) (Chg.zero (l := 0) (h := 0) (c3.t cb4)) cw6 (by omega)
 exact ⟨rfl, q8⟩

theorem c_iNatOk {w : World} {va : Value} {lva uva : Nat} {zs : List Int} (hva : Sl w lva uva va (zs)) (h63 : zs.length ≤ 4611686018427387904) :
  Ret Tryz.prog 127 [va] w fun v w' => v = .bool (decide (NOk zs)) ∧ Chg 0 0 w w' := by
 have hva0 := hva.fit
 refine sx_enter Tryz.func127 rfl Tryz.ntmps127 (nbl rfl) ?_
 refine sx_seq fun K1 k1 => sx_region ?_
 refine av rfl rfl (wl_nil (q_n (k1 _ _ ?_)))
 refine sx_seq fun K2 k2 => ?_
 refine sx_seq fun K3 k3 => sx_region ?_
 refine mv rfl rfl (sp rfl (px_len rfl Tryz.underlying26 hva0) ?_)
 refine sp rfl (px_gt rfl rfl) ?_
 refine mv rfl rfl ?_
 refine sx_tmpP (t := 8) rfl (fun h13 => ?_) (fun h13 => ?_)
 ·
  refine sx_guardF rfl rfl rfl rfl rfl rfl ?_
  refine sx_guardF rfl rfl rfl rfl rfl rfl ?_
  refine sx_guardF rfl rfl rfl rfl rfl rfl ?_
  refine sx_guardF rfl rfl rfl rfl rfl rfl ?_
  refine sx_guardFU rfl rfl rfl rfl rfl ?_
  refine sx_guardFU rfl rfl rfl rfl rfl ?_
  refine sx_guardFU rfl rfl rfl rfl rfl ?_
  refine sx_guardFU rfl rfl rfl rfl rfl ?_
  refine sx_guardFU rfl rfl rfl rfl rfl ?_
  refine sx_guardFU rfl rfl rfl rfl rfl ?_
  refine sx_guardFU rfl rfl rfl rfl rfl ?_
  refine sx_guardF rfl rfl rfl rfl rfl rfl ?_
  refine sp rfl (px_pick rfl rfl) ?_
  refine wl_nil (q_n (k3 _ _ ?_))
  refine sx_sub (Sub.c 0 rfl (.c 2 rfl (.c 21 rfl .nil))) ?_
  refine sx_condT rfl ?_
  refine sx_seq fun K4 k4 => sx_region ?_
  refine av rfl rfl (wl_nil (q_n (k4 _ _ ?_)))
  refine sx_retc ?_
  refine q_r (sx_ret1 Tryz.results127 rfl ?_)
  exact ⟨bFalse (fun h => by first | (have h1 := h.2.1; omega) | exact h.2.2 ((last_getD (by omega)).2 (by assumption))), (Chg.refl 0 0 _)⟩
 refine sx_guardT rfl rfl rfl ?_
 refine mv rfl rfl ?_
 refine sx_guardT rfl rfl rfl ?_
 refine sp rfl (px_len rfl Tryz.underlying26 hva0) ?_
 refine sx_guardT rfl rfl rfl ?_
 refine sp rfl (px_gt rfl rfl) ?_
 refine sx_guardT rfl rfl rfl ?_
 refine mv rfl rfl ?_
 refine sx_tmpP (t := 12) rfl (fun h13x1 => ?_) (fun h13x1 => ?_)
 ·
  refine sx_guardT rfl rfl rfl ?_
  refine mv rfl rfl ?_
  refine sx_guardT rfl rfl rfl ?_
  refine mv rfl rfl ?_
  refine sx_guardT rfl rfl rfl ?_
  refine sp rfl (px_len rfl Tryz.underlying26 hva0) ?_
  refine sx_guardT rfl rfl rfl ?_
  refine sp rfl (px_sub rfl rfl (by omega)) ?_
  refine sx_guardT rfl rfl rfl ?_
  refine sp rfl (px_index1 (j := (zs.length - 1)) rfl rfl (by omega) Tryz.underlying26 Tryz.sizeOf3 hva0 (by omega)) ?_
  refine sx_guardT rfl rfl rfl ?_
  refine sp rfl (px_load rfl (hva0.load1 (at_int (by omega)) Tryz.isAgg3)) ?_
  refine sx_guardT rfl rfl rfl ?_
  refine sp rfl (px_eq rfl rfl) ?_
  refine sx_guardT rfl rfl rfl ?_
  refine sp rfl (px_pick rfl rfl) ?_
  refine sp rfl (px_pick rfl rfl) ?_
  refine wl_nil (q_n (k3 _ _ ?_))
  refine sx_sub (Sub.c 0 rfl (.c 2 rfl (.c 21 rfl .nil))) ?_
  refine sx_condP rfl (fun h13x2 => ?_) (fun h13x2 => ?_)
  ·
   refine sx_seq fun K5 k5 => sx_region ?_
   refine av rfl rfl (wl_nil (q_n (k5 _ _ ?_)))
   refine sx_retc ?_
   refine q_r (sx_ret1 Tryz.results127 rfl ?_)
   exact ⟨bFalse (fun h => by first | (have h1 := h.2.1; omega) | exact h.2.2 ((last_getD (by omega)).2 (by assumption))), (Chg.refl 0 0 _)⟩
  refine sx_skip ?_
  refine q_n (k2 _ _ ?_)
  refine sx_seq fun K6 k6 => ?_
  refine sx_seq fun K7 k7 => sx_region ?_
  refine mv rfl rfl (sp rfl (px_len rfl Tryz.underlying26 hva0) ?_)
  refine mv rfl rfl (wl_nil (q_n (k7 _ _ ?_)))
  refine sx_block ?_
  refine sx_loop (fun mm aa w' => ∃ (k : Nat), Agr 35 [(22, va), (23, .int .i64 ↑zs.length), (24, .int .i64 ↑k)] aa ∧ Chg 0 0 w w' ∧ (mm = zs.length - k) ∧ (k ≤ zs.length) ∧ (∀ i, i < k → 0 ≤ zs.getD i 0 ∧ zs.getD i 0 < 1000000000)) (_) (fun a ha => ⟨0, ha.sub (Sub.c 22 rfl (.c 23 (look_int (t := 23) rfl (by first | omega | simp)) (.c 24 (look_int (t := 24) rfl (by first | omega | simp)) .nil))), Chg.refl _ _ _, rfl, by omega, fun i h => by omega⟩) ?_
  rintro mm aa wl8 ⟨k, hAwl8, cwl8, hm, hk, hall⟩
  refine (show cw Tryz.prog 35 _ _ _ wl8 from ?_) aa hAwl8
  clear hAwl8
  have zwl8 := cwl8.size
  refine sx_seq fun K9 k9 => sx_region ?_
  refine sp rfl (px_lt rfl rfl) ?_
  refine wl_nil (q_n (k9 _ _ ?_))
  refine sx_seq fun K10 k10 => ?_
  refine sx_condP rfl (fun h16 => ?_) (fun h16 => ?_)
  ·
   refine sx_skip ?_
   refine q_n (k10 _ _ ?_)
   refine sx_seq fun K11 k11 => ?_
   refine sx_block ?_
   refine sx_seq fun K12 k12 => sx_region ?_
   have f13 := hva0.ext cwl8
   refine sp rfl (px_index1 (j := k) rfl rfl (by omega) Tryz.underlying26 Tryz.sizeOf3 f13 (by omega)) ?_
   refine sp rfl (px_load rfl (f13.load1 (at_int (by omega)) Tryz.isAgg3)) ?_
   refine av rfl rfl (wl_nil (q_n (k12 _ _ ?_)))
   refine sx_seq fun K14 k14 => sx_region ?_
   refine mv rfl rfl (sp rfl (px_lt rfl rfl) ?_)
   refine mv rfl rfl ?_
   refine sx_tmpP (t := 30) rfl (fun h17 => ?_) (fun h17 => ?_)
   ·
    refine sx_guardF rfl rfl rfl rfl rfl rfl ?_
    refine sx_guardF rfl rfl rfl rfl rfl rfl ?_
    refine sp rfl (px_pick rfl rfl) ?_
    refine wl_nil (q_n (k14 _ _ ?_))
    refine sx_condT rfl ?_
    refine sx_seq fun K15 k15 => sx_region ?_
    refine av rfl rfl (wl_nil (q_n (k15 _ _ ?_)))
    refine sx_retc ?_
    refine q_br (q_r (q_r (q_br (q_r (sx_ret1 Tryz.results127 rfl ?_)))))
    exact ⟨bFalse (fun h => by have h1 := h.1.getD k; omega), cwl8⟩
   refine sx_guardT rfl rfl rfl ?_
   refine mv rfl rfl ?_
   refine sx_guardT rfl rfl rfl ?_
   refine sp rfl (px_ge rfl rfl) ?_
   refine sp rfl (px_pick rfl rfl) ?_
   refine wl_nil (q_n (k14 _ _ ?_))
   refine sx_condP rfl (fun h17x1 => ?_) (fun h17x1 => ?_)
   ·
    refine sx_seq fun K16 k16 => sx_region ?_
    refine av rfl rfl (wl_nil (q_n (k16 _ _ ?_)))
    refine sx_retc ?_
    refine q_br (q_r (q_r (q_br (q_r (sx_ret1 Tryz.results127 rfl ?_)))))
    exact ⟨bFalse (fun h => by have h1 := h.1.getD k; omega), cwl8⟩
   refine sx_skip ?_
   refine q_bn (q_n (k11 _ _ ?_))
   refine sx_region ?_
   refine sp rfl (px_add rfl rfl (by omega)) ?_
   refine mv rfl rfl (wl_nil ?_)
   exact fun a ha => ⟨_, by omega, (k + 1), ha.sub (Sub.c 22 rfl (.c 23 rfl (.c 24 (look_int (t := 24) rfl (by first | omega | simp)) .nil))), cwl8, rfl, by omega, lm_succ hall (by omega)⟩
  refine sx_exit ?_
  refine q_e (q_e (q_bx (q_n (k6 _ _ ?_))))
  refine sx_seq fun K17 k17 => sx_region ?_
  refine av rfl rfl (wl_nil (q_n (k17 _ _ ?_)))
  refine sx_retc ?_
  refine sx_ret1 Tryz.results127 rfl ?_
  have ek : k = zs.length := by omega
  have hz : Lm zs := lm_mem (by rw [← ek]; exact hall)
  exact ⟨bTrue (NOk_mk hz (by omega) (by first | exact .inl (by omega) | exact .inr (by assumption))), cwl8⟩
 refine sx_guardF rfl rfl rfl rfl rfl rfl ?_
 refine sx_guardF rfl rfl rfl rfl rfl rfl ?_
 refine sx_guardF rfl rfl rfl rfl rfl rfl ?_
 refine sx_guardF rfl rfl rfl rfl rfl rfl ?_
 refine sx_guardF rfl rfl rfl rfl rfl rfl ?_
 refine sx_guardF rfl rfl rfl rfl rfl rfl ?_
 refine sx_guardF rfl rfl rfl rfl rfl rfl ?_
 refine sx_guardT rfl rfl rfl ?_
 refine sp rfl (px_pick rfl rfl) ?_
 refine sp rfl (px_pick rfl rfl) ?_
 refine wl_nil (q_n (k3 _ _ ?_))
 refine sx_sub (Sub.c 0 rfl (.c 2 rfl (.c 21 rfl .nil))) ?_
 refine sx_condF rfl ?_
 refine sx_skip ?_
 refine q_n (k2 _ _ ?_)
 refine sx_seq fun K18 k18 => ?_
 refine sx_seq fun K19 k19 => sx_region ?_
 refine mv rfl rfl (sp rfl (px_len rfl Tryz.underlying26 hva0) ?_)
 refine mv rfl rfl (wl_nil (q_n (k19 _ _ ?_)))
 refine sx_block ?_
 refine sx_loop (fun mm aa w' => ∃ (k : Nat), Agr 35 [(22, va), (23, .int .i64 ↑zs.length), (24, .int .i64 ↑k)] aa ∧ Chg 0 0 w w' ∧ (mm = zs.length - k) ∧ (k ≤ zs.length) ∧ (∀ i, i < k → 0 ≤ zs.getD i 0 ∧ zs.getD i 0 < 1000000000)) (_) (fun a ha => ⟨0, ha.sub (Sub.c 22 rfl (.c 23 (look_int (t := 23) rfl (by first | omega | simp)) (.c 24 (look_int (t := 24) rfl (by first | omega | simp)) .nil))), Chg.refl _ _ _, rfl, by omega, fun i h => by omega⟩) ?_
 rintro mm aa wl20 ⟨k, hAwl20, cwl20, hm, hk, hall⟩
 refine (show cw Tryz.prog 35 _ _ _ wl20 from ?_) aa hAwl20
 clear hAwl20
 have zwl20 := cwl20.size
 refine sx_seq fun K21 k21 => sx_region ?_
 refine sp rfl (px_lt rfl rfl) ?_
 refine wl_nil (q_n (k21 _ _ ?_))
 refine sx_seq fun K22 k22 => ?_
 refine sx_condP rfl (fun h16 => ?_) (fun h16 => ?_)
 ·
  refine sx_skip ?_
  refine q_n (k22 _ _ ?_)
  refine sx_seq fun K23 k23 => ?_
  refine sx_block ?_
  refine sx_seq fun K24 k24 => sx_region ?_
  have f25 := hva0.ext cwl20
  refine sp rfl (px_index1 (j := k) rfl rfl (by omega) Tryz.underlying26 Tryz.sizeOf3 f25 (by omega)) ?_
  refine sp rfl (px_load rfl (f25.load1 (at_int (by omega)) Tryz.isAgg3)) ?_
  refine av rfl rfl (wl_nil (q_n (k24 _ _ ?_)))
  refine sx_seq fun K26 k26 => sx_region ?_
  refine mv rfl rfl (sp rfl (px_lt rfl rfl) ?_)
  refine mv rfl rfl ?_
  refine sx_tmpP (t := 30) rfl (fun h17 => ?_) (fun h17 => ?_)
  ·
   refine sx_guardF rfl rfl rfl rfl rfl rfl ?_
   refine sx_guardF rfl rfl rfl rfl rfl rfl ?_
   refine sp rfl (px_pick rfl rfl) ?_
   refine wl_nil (q_n (k26 _ _ ?_))
   refine sx_condT rfl ?_
   refine sx_seq fun K27 k27 => sx_region ?_
   refine av rfl rfl (wl_nil (q_n (k27 _ _ ?_)))
   refine sx_retc ?_
   refine q_br (q_r (q_r (q_br (q_r (sx_ret1 Tryz.results127 rfl ?_)))))
   exact ⟨bFalse (fun h => by have h1 := h.1.getD k; omega), cwl20⟩
  refine sx_guardT rfl rfl rfl ?_
  refine mv rfl rfl ?_
  refine sx_guardT rfl rfl rfl ?_
  refine sp rfl (px_ge rfl rfl) ?_
  refine sp rfl (px_pick rfl rfl) ?_
  refine wl_nil (q_n (k26 _ _ ?_))
  refine sx_condP rfl (fun h17x1 => ?_) (fun h17x1 => ?_)
  ·
   refine sx_seq fun K28 k28 => sx_region ?_
   refine av rfl rfl (wl_nil (q_n (k28 _ _ ?_)))
   refine sx_retc ?_
   refine q_br (q_r (q_r (q_br (q_r (sx_ret1 Tryz.results127 rfl ?_)))))
   exact ⟨bFalse (fun h => by have h1 := h.1.getD k; omega), cwl20⟩
  refine sx_skip ?_
  refine q_bn (q_n (k23 _ _ ?_))
  refine sx_region ?_
  refine sp rfl (px_add rfl rfl (by omega)) ?_
  refine mv rfl rfl (wl_nil ?_)
  exact fun a ha => ⟨_, by omega, (k + 1), ha.sub (Sub.c 22 rfl (.c 23 rfl (.c 24 (look_int (t := 24) rfl (by first | omega | simp)) .nil))), cwl20, rfl, by omega, lm_succ hall (by omega)⟩
 refine sx_exit ?_
 refine q_e (q_e (q_bx (q_n (k18 _ _ ?_))))
 refine sx_seq fun K29 k29 => sx_region ?_
 refine av rfl rfl (wl_nil (q_n (k29 _ _ ?_)))
 refine sx_retc ?_
 refine sx_ret1 Tryz.results127 rfl ?_
 have ek : k = zs.length := by omega
 have hz : Lm zs := lm_mem (by rw [← ek]; exact hall)
 exact ⟨bTrue (NOk_mk hz (by omega) (by first | exact .inl (by omega) | exact .inr (by assumption))), cwl20⟩

theorem c_iIntOk {w : World} {n1 : Bool} {v1 : Value} {lv1 uv1 : Nat} {z1 : List Int} (hv1 : Sl w lv1 uv1 v1 (z1)) (h63 : z1.length ≤ 4611686018427387904) :
  Ret Tryz.prog 97 [.agg #[.bool n1, v1]] w fun v w' => v = .bool (decide (IOk n1 z1)) ∧ Chg 0 0 w w' := by
 have hv10 := hv1.fit
 refine sx_enter Tryz.func97 rfl Tryz.ntmps97 (nbl rfl) ?_
 refine sx_seq fun K1 k1 => sx_region ?_
 refine sx_box [.bool n1, v1] rfl rfl rfl (fun b2 w3 eb2 sb2 fb2 cb2 => ?_)
 have zw3 := cb2.size
 refine av rfl rfl (wl_nil (q_n (k1 _ _ ?_)))
 refine sx_seq fun K4 k4 => sx_region ?_
 refine sp rfl (px_field rfl xfld28x1) ?_
 refine sp rfl (px_load rfl (fb2.load1 rfl Tryz.isAgg26)) ?_
 have f5 := hv10.ext cb2
 refine sx_call rfl rfl Tryz.call127 (c_iNatOk f5 (by omega)) (fun v6 w6 p6 => ?_)
 obtain ⟨rfl, c6⟩ := p6
 have zw6 := c6.size
 refine mv rfl rfl ?_
 refine sx_tmpP (t := 6) rfl (fun h10 => ?_) (fun h10 => ?_)
 ·
  refine sx_guardT rfl rfl rfl ?_
  refine sp rfl (px_field rfl xfld28x0) ?_
  refine sx_guardT rfl rfl rfl ?_
  have f7 := fb2.ext c6
  refine sp rfl (px_load rfl (f7.load1 rfl Tryz.isAgg4)) ?_
  refine sx_guardT rfl rfl rfl ?_
  refine sp rfl (px_not rfl) ?_
  refine sx_guardT rfl rfl rfl ?_
  refine mv rfl rfl ?_
  refine sx_tmpB (t := 10) rfl (fun h10x1 => ?_) (fun h10x1 => ?_)
  ·
   refine sx_guardF rfl rfl rfl rfl rfl rfl ?_
   refine sx_guardF rfl rfl rfl rfl rfl rfl ?_
   refine sx_guardF rfl rfl rfl rfl rfl rfl ?_
   refine sx_guardF rfl rfl rfl rfl rfl rfl ?_
   refine sx_guardT rfl rfl rfl ?_
   refine sp rfl (px_pick rfl rfl) ?_
   refine sp rfl (px_pick rfl rfl) ?_
   refine av rfl rfl (wl_nil (q_n (k4 _ _ ?_)))
   refine sx_sub (Sub.c 2 rfl .nil) ?_
   refine sx_retc ?_
   refine sx_ret1 Tryz.results97 rfl ?_
   exact ⟨(by first | exact bTrue (by grind [IOk]) | exact bFalse (by grind [IOk]) | exact bIff (by grind [IOk])), (cb2.t c6)⟩
  refine sx_guardT rfl rfl rfl ?_
  refine sp rfl (px_field rfl xfld28x1) ?_
  refine sx_guardT rfl rfl rfl ?_
  refine sp rfl (px_load rfl (f7.load1 rfl Tryz.isAgg26)) ?_
  refine sx_guardT rfl rfl rfl ?_
  have f8 := f5.ext c6
  refine sp rfl (px_len rfl Tryz.underlying26 f8) ?_
  refine sx_guardT rfl rfl rfl ?_
  refine sp rfl (px_gt rfl rfl) ?_
  refine sx_guardT rfl rfl rfl ?_
  refine sp rfl (px_pick rfl rfl) ?_
  refine sp rfl (px_pick rfl rfl) ?_
  refine av rfl rfl (wl_nil (q_n (k4 _ _ ?_)))
  refine sx_sub (Sub.c 2 rfl .nil) ?_
  refine sx_retc ?_
  refine sx_ret1 Tryz.results97 rfl ?_
  exact ⟨(by first | exact bTrue (by grind [IOk]) | exact bFalse (by grind [IOk]) | exact bIff (by grind [IOk])), (cb2.t c6)⟩
 refine sx_guardF rfl rfl rfl rfl rfl rfl ?_
 refine sx_guardF rfl rfl rfl rfl rfl rfl ?_
 refine sx_guardF rfl rfl rfl rfl rfl rfl ?_
 refine sx_guardF rfl rfl rfl rfl rfl rfl ?_
 refine sx_guardFU rfl rfl rfl rfl rfl ?_
 refine sx_guardFU rfl rfl rfl rfl rfl ?_
 refine sx_guardFU rfl rfl rfl rfl rfl ?_
 refine sx_guardFU rfl rfl rfl rfl rfl ?_
 refine sx_guardF rfl rfl rfl rfl rfl rfl ?_
 refine sp rfl (px_pick rfl rfl) ?_
 refine av rfl rfl (wl_nil (q_n (k4 _ _ ?_)))
 refine sx_sub (Sub.c 2 rfl .nil) ?_
 refine sx_retc ?_
 refine sx_ret1 Tryz.results97 rfl ?_
 exact ⟨(by first | exact bTrue (by grind [IOk]) | exact bFalse (by grind [IOk]) | exact bIff (by grind [IOk])), (cb2.t c6)⟩

theorem c_iMoneyOk {w : World} {c1 : ByteArray} {n1 : Bool} {v1 : Value} {lv1 uv1 : Nat} {z1 : List Int} (hG0 : Glob w) (hv1 : Sl w lv1 uv1 v1 (z1)) (h63 : z1.length ≤ 4611686018427387904) :
  Ret Tryz.prog 60 [.agg #[.string c1, .bool n1, v1]] w fun v w' => v = .bool (decide (MOk c1 n1 z1)) ∧ Chg 0 0 w w' := by
 have hv10 := hv1.fit
 refine sx_enter Tryz.func60 rfl Tryz.ntmps60 (nbl rfl) ?_
 refine sx_seq fun K1 k1 => sx_region ?_
 refine sx_box [.string c1, .bool n1, v1] rfl rfl rfl (fun b2 w3 eb2 sb2 fb2 cb2 => ?_)
 have zw3 := cb2.size
 refine av rfl rfl (wl_nil (q_n (k1 _ _ ?_)))
 refine sx_seq fun K4 k4 => sx_region ?_
 refine sp rfl (px_field rfl xfld48x0) ?_
 refine sp rfl (px_load rfl (fb2.load1 rfl Tryz.isAgg9)) ?_
 have f5 := hG0.ext cb2
 refine sx_call rfl rfl Tryz.call79 (c_iCurKnown f5) (fun v6 w6 p6 => ?_)
 obtain ⟨rfl, c6⟩ := p6
 have zw6 := c6.size
 refine mv rfl rfl ?_
 refine sx_tmpP (t := 6) rfl (fun h14 => ?_) (fun h14 => ?_)
 ·
  refine sx_guardT rfl rfl rfl ?_
  refine sp rfl (px_field rfl xfld48x1) ?_
  refine sx_guardT rfl rfl rfl ?_
  have f7 := fb2.ext c6
  refine sp rfl (px_load rfl (f7.loadA (vs := [.bool n1, v1]) (look_lit rfl) Tryz.isAgg28 Tryz.sizeOf28)) ?_
  refine sx_guardT rfl rfl rfl ?_
  have f8 := hv10.ext cb2
  have f9 := f8.ext c6
  refine sx_call rfl rfl Tryz.call97 (c_iIntOk f9 (by omega)) (fun v10 w10 p10 => ?_)
  obtain ⟨rfl, c10⟩ := p10
  have zw10 := c10.size
  refine sp rfl (px_pick rfl rfl) ?_
  refine mv rfl rfl ?_
  refine sx_tmpP (t := 11) rfl (fun h14x1 => ?_) (fun h14x1 => ?_)
  ·
   refine sx_guardT rfl rfl rfl ?_
   refine sp rfl (px_field rfl xfld48x1) ?_
   refine sx_guardT rfl rfl rfl ?_
   refine sp rfl (px_field rfl xfld28x1) ?_
   refine sx_guardT rfl rfl rfl ?_
   have f11 := f7.ext c10
   refine sp rfl (px_load rfl (f11.load1 rfl Tryz.isAgg26)) ?_
   refine sx_guardT rfl rfl rfl ?_
   have f12 := f9.ext c10
   refine sp rfl (px_len rfl Tryz.underlying26 f12) ?_
   refine sx_guardT rfl rfl rfl ?_
   refine sp rfl (px_le rfl rfl) ?_
   refine sp rfl (px_pick rfl rfl) ?_
   refine av rfl rfl (wl_nil (q_n (k4 _ _ ?_)))
   refine sx_sub (Sub.c 2 rfl .nil) ?_
   refine sx_retc ?_
   refine sx_ret1 Tryz.results60 rfl ?_
   exact ⟨(by first | exact bTrue (by grind [MOk]) | exact bFalse (by grind [MOk]) | exact bIff (by grind [MOk])), ((cb2.t c6).t c10)⟩
  refine sx_guardF rfl rfl rfl rfl rfl rfl ?_
  refine sx_guardF rfl rfl rfl rfl rfl rfl ?_
  refine sx_guardF rfl rfl rfl rfl rfl rfl ?_
  refine sx_guardF rfl rfl rfl rfl rfl rfl ?_
  refine sx_guardF rfl rfl rfl rfl rfl rfl ?_
  refine sp rfl (px_pick rfl rfl) ?_
  refine av rfl rfl (wl_nil (q_n (k4 _ _ ?_)))
  refine sx_sub (Sub.c 2 rfl .nil) ?_
  refine sx_retc ?_
  refine sx_ret1 Tryz.results60 rfl ?_
  exact ⟨(by first | exact bTrue (by grind [MOk]) | exact bFalse (by grind [MOk]) | exact bIff (by grind [MOk])), ((cb2.t c6).t c10)⟩
 refine sx_guardF rfl rfl rfl rfl rfl rfl ?_
 refine sx_guardF rfl rfl rfl rfl rfl rfl ?_
 refine sx_guardF rfl rfl rfl rfl rfl rfl ?_
 refine sp rfl (px_pick rfl rfl) ?_
 refine mv rfl rfl ?_
 refine sx_guardF rfl rfl rfl rfl rfl rfl ?_
 refine sx_guardF rfl rfl rfl rfl rfl rfl ?_
 refine sx_guardF rfl rfl rfl rfl rfl rfl ?_
 refine sx_guardF rfl rfl rfl rfl rfl rfl ?_
 refine sx_guardF rfl rfl rfl rfl rfl rfl ?_
 refine sp rfl (px_pick rfl rfl) ?_
 refine av rfl rfl (wl_nil (q_n (k4 _ _ ?_)))
 refine sx_sub (Sub.c 2 rfl .nil) ?_
 refine sx_retc ?_
 refine sx_ret1 Tryz.results60 rfl ?_
 exact ⟨(by first | exact bTrue (by grind [MOk]) | exact bFalse (by grind [MOk]) | exact bIff (by grind [MOk])), (cb2.t c6)⟩

theorem c_isScale {w : World} {p : Int} :
  Ret Tryz.prog 119 [.int .i64 p] w fun v w' => v = .bool (decide (0 ≤ p ∧ p ≤ 30)) ∧ Chg 0 0 w w' := by
 refine sx_enter Tryz.func119 rfl Tryz.ntmps119 (nbl rfl) ?_
 refine sx_seq fun K1 k1 => sx_region ?_
 refine av rfl rfl (wl_nil (q_n (k1 _ _ ?_)))
 refine sx_seq fun K2 k2 => sx_region ?_
 refine mv rfl rfl (sp rfl (px_ge rfl rfl) ?_)
 refine mv rfl rfl ?_
 refine sx_tmpP (t := 5) rfl (fun h15 => ?_) (fun h15 => ?_)
 ·
  refine sx_guardT rfl rfl rfl ?_
  refine mv rfl rfl ?_
  refine sx_guardT rfl rfl rfl ?_
  refine sp rfl (px_le rfl rfl) ?_
  refine sp rfl (px_pick rfl rfl) ?_
  refine av rfl rfl (wl_nil (q_n (k2 _ _ ?_)))
  refine sx_retc ?_
  refine sx_ret1 Tryz.results119 rfl ?_
  exact ⟨(by first | exact bTrue (by grind) | exact bFalse (by grind) | exact bIff (by grind)), (Chg.refl 0 0 _)⟩
 refine sx_guardF rfl rfl rfl rfl rfl rfl ?_
 refine sx_guardF rfl rfl rfl rfl rfl rfl ?_
 refine sp rfl (px_pick rfl rfl) ?_
 refine av rfl rfl (wl_nil (q_n (k2 _ _ ?_)))
 refine sx_retc ?_
 refine sx_ret1 Tryz.results119 rfl ?_
 exact ⟨(by first | exact bTrue (by grind) | exact bFalse (by grind) | exact bIff (by grind)), (Chg.refl 0 0 _)⟩

theorem c_iDecOk {w : World} {n1 : Bool} {v1 : Value} {lv1 uv1 : Nat} {z1 : List Int} {p1 : Int} (hv1 : Sl w lv1 uv1 v1 (z1)) (h63 : z1.length ≤ 4611686018427387904) :
  Ret Tryz.prog 83 [.agg #[.bool n1, v1, .int .i64 p1]] w fun v w' => v = .bool (decide (DOk n1 z1 p1)) ∧ Chg 0 0 w w' := by
 have hv10 := hv1.fit
 refine sx_enter Tryz.func83 rfl Tryz.ntmps83 (nbl rfl) ?_
 refine sx_seq fun K1 k1 => sx_region ?_
 refine sx_box [.bool n1, v1, .int .i64 p1] rfl rfl rfl (fun b2 w3 eb2 sb2 fb2 cb2 => ?_)
 have zw3 := cb2.size
 refine av rfl rfl (wl_nil (q_n (k1 _ _ ?_)))
 refine sx_seq fun K4 k4 => sx_region ?_
 refine sp rfl (px_field rfl xfld63x0) ?_
 refine sp rfl (px_load rfl (fb2.loadA (vs := [.bool n1, v1]) (look_lit rfl) Tryz.isAgg28 Tryz.sizeOf28)) ?_
 have f5 := hv10.ext cb2
 refine sx_call rfl rfl Tryz.call97 (c_iIntOk f5 (by omega)) (fun v6 w6 p6 => ?_)
 obtain ⟨rfl, c6⟩ := p6
 have zw6 := c6.size
 refine mv rfl rfl ?_
 refine sx_tmpP (t := 6) rfl (fun h18 => ?_) (fun h18 => ?_)
 ·
  refine sx_guardT rfl rfl rfl ?_
  refine sp rfl (px_field rfl xfld63x0) ?_
  refine sx_guardT rfl rfl rfl ?_
  refine sp rfl (px_field rfl xfld28x1) ?_
  refine sx_guardT rfl rfl rfl ?_
  have f7 := fb2.ext c6
  refine sp rfl (px_load rfl (f7.load1 rfl Tryz.isAgg26)) ?_
  refine sx_guardT rfl rfl rfl ?_
  have f8 := f5.ext c6
  refine sp rfl (px_len rfl Tryz.underlying26 f8) ?_
  refine sx_guardT rfl rfl rfl ?_
  refine sp rfl (px_le rfl rfl) ?_
  refine sp rfl (px_pick rfl rfl) ?_
  refine mv rfl rfl ?_
  refine sx_tmpP (t := 13) rfl (fun h18x1 => ?_) (fun h18x1 => ?_)
  ·
   refine sx_guardT rfl rfl rfl ?_
   refine sp rfl (px_field rfl xfld63x1) ?_
   refine sx_guardT rfl rfl rfl ?_
   refine sp rfl (px_load rfl (f7.load1 rfl Tryz.isAgg3)) ?_
   refine sx_guardT rfl rfl rfl ?_
   refine sx_call rfl rfl Tryz.call119 (c_isScale) (fun v9 w9 p9 => ?_)
   obtain ⟨rfl, c9⟩ := p9
   have zw9 := c9.size
   refine sp rfl (px_pick rfl rfl) ?_
   refine av rfl rfl (wl_nil (q_n (k4 _ _ ?_)))
   refine sx_sub (Sub.c 2 rfl .nil) ?_
   refine sx_retc ?_
   refine sx_ret1 Tryz.results83 rfl ?_
   exact ⟨(by first | exact bTrue (by grind [DOk]) | exact bFalse (by grind [DOk]) | exact bIff (by grind [DOk])), ((cb2.t c6).t c9)⟩
  refine sx_guardF rfl rfl rfl rfl rfl rfl ?_
  refine sx_guardF rfl rfl rfl rfl rfl rfl ?_
  refine sx_guardF rfl rfl rfl rfl rfl rfl ?_
  refine sp rfl (px_pick rfl rfl) ?_
  refine av rfl rfl (wl_nil (q_n (k4 _ _ ?_)))
  refine sx_sub (Sub.c 2 rfl .nil) ?_
  refine sx_retc ?_
  refine sx_ret1 Tryz.results83 rfl ?_
  exact ⟨(by first | exact bTrue (by grind [DOk]) | exact bFalse (by grind [DOk]) | exact bIff (by grind [DOk])), (cb2.t c6)⟩
 refine sx_guardF rfl rfl rfl rfl rfl rfl ?_
 refine sx_guardF rfl rfl rfl rfl rfl rfl ?_
 refine sx_guardF rfl rfl rfl rfl rfl rfl ?_
 refine sx_guardF rfl rfl rfl rfl rfl rfl ?_
 refine sx_guardF rfl rfl rfl rfl rfl rfl ?_
 refine sp rfl (px_pick rfl rfl) ?_
 refine mv rfl rfl ?_
 refine sx_guardF rfl rfl rfl rfl rfl rfl ?_
 refine sx_guardF rfl rfl rfl rfl rfl rfl ?_
 refine sx_guardF rfl rfl rfl rfl rfl rfl ?_
 refine sp rfl (px_pick rfl rfl) ?_
 refine av rfl rfl (wl_nil (q_n (k4 _ _ ?_)))
 refine sx_sub (Sub.c 2 rfl .nil) ?_
 refine sx_retc ?_
 refine sx_ret1 Tryz.results83 rfl ?_
 exact ⟨(by first | exact bTrue (by grind [DOk]) | exact bFalse (by grind [DOk]) | exact bIff (by grind [DOk])), (cb2.t c6)⟩

theorem c_intSign {w : World} {va : Value} {lva uva : Nat} {x : Int} (hva : Sl w lva uva va (dg x.natAbs)) (hbx : (dg x.natAbs).length ≤ 1000) :
  Ret Tryz.prog 143 [.agg #[.bool (ng x), va]] w fun v w' => v = .int .i64 ((x).sign) ∧ Chg 0 0 w w' := by
 have hva0 := hva.fit
 refine sx_enter Tryz.func143 rfl Tryz.ntmps143 (nbl rfl) ?_
 refine sx_seq fun K1 k1 => sx_region ?_
 refine sx_box [.bool (ng x), va] rfl rfl rfl (fun b2 w3 eb2 sb2 fb2 cb2 => ?_)
 have zw3 := cb2.size
 refine av rfl rfl (wl_nil (q_n (k1 _ _ ?_)))
 refine sx_seq fun K4 k4 => ?_
 refine sx_block ?_
 refine sx_seq fun K5 k5 => sx_region ?_
 refine sp rfl (px_field rfl xfld28x1) ?_
 refine sp rfl (px_load rfl (fb2.load1 rfl Tryz.isAgg26)) ?_
 have f6 := hva0.ext cb2
 refine sp rfl (px_len rfl Tryz.underlying26 f6) ?_
 refine sp rfl (px_eq rfl rfl) ?_
 refine av rfl rfl (wl_nil (q_n (k5 _ _ ?_)))
 refine sx_condP rfl (fun h101 => ?_) (fun h101 => ?_)
 ·
  refine sx_seq fun K7 k7 => sx_region ?_
  refine av rfl rfl (wl_nil (q_n (k7 _ _ ?_)))
  refine sx_retc ?_
  refine q_br (q_r (sx_ret1 Tryz.results143 rfl ?_))
  exact ⟨(by rw [sign_z (by omega)]), cb2⟩
 refine sx_seq fun K8 k8 => sx_region ?_
 refine sp rfl (px_field rfl xfld28x0) ?_
 refine sp rfl (px_load rfl (fb2.load1 rfl Tryz.isAgg4)) ?_
 refine av rfl rfl (wl_nil (q_n (k8 _ _ ?_)))
 refine sx_condB rfl (fun h103 => ?_) (fun h103 => ?_)
 ·
  refine sx_seq fun K9 k9 => sx_region ?_
  refine av rfl rfl (wl_nil (q_n (k9 _ _ ?_)))
  refine sx_retc ?_
  refine q_br (q_r (sx_ret1 Tryz.results143 rfl ?_))
  exact ⟨(by rw [sign_n h103]), cb2⟩
 refine sx_skip ?_
 refine q_bn (q_n (k4 _ _ ?_))
 refine sx_seq fun K10 k10 => sx_region ?_
 refine av rfl rfl (wl_nil (q_n (k10 _ _ ?_)))
 refine sx_retc ?_
 refine sx_ret1 Tryz.results143 rfl ?_
 exact ⟨(by rw [sign_p (by omega) h103]), cb2⟩

theorem c_iRateOk {w : World} {f1 : ByteArray} {t1 : ByteArray} {n1 : Bool} {v1 : Value} {lv1 uv1 : Nat} {z1 : List Int} {p1 : Int} (hG0 : Glob w) (hv1 : Sl w lv1 uv1 v1 (z1)) (h63 : z1.length ≤ 4611686018427387904) :
  Ret Tryz.prog 117 [.agg #[.string f1, .string t1, .bool n1, v1, .int .i64 p1]] w fun v w' => v = .bool (decide (RateP f1 t1 n1 z1 p1)) ∧ Chg 0 0 w w' := by
 have hv10 := hv1.fit
 refine sx_enter Tryz.func117 rfl Tryz.ntmps117 (nbl rfl) ?_
 refine sx_seq fun K1 k1 => sx_region ?_
 refine sx_box [.string f1, .string t1, .bool n1, v1, .int .i64 p1] rfl rfl rfl (fun b2 w3 eb2 sb2 fb2 cb2 => ?_)
 have zw3 := cb2.size
 refine av rfl rfl (wl_nil (q_n (k1 _ _ ?_)))
 refine sx_seq fun K4 k4 => sx_region ?_
 refine sp rfl (px_field rfl xfld99x0) ?_
 refine sp rfl (px_load rfl (fb2.load1 rfl Tryz.isAgg9)) ?_
 have f5 := hG0.ext cb2
 refine sx_call rfl rfl Tryz.call79 (c_iCurKnown f5) (fun v6 w6 p6 => ?_)
 obtain ⟨rfl, c6⟩ := p6
 have zw6 := c6.size
 refine mv rfl rfl ?_
 refine sx_tmpP (t := 6) rfl (fun h36 => ?_) (fun h36 => ?_)
 ·
  refine sx_guardT rfl rfl rfl ?_
  refine sp rfl (px_field rfl xfld99x1) ?_
  refine sx_guardT rfl rfl rfl ?_
  have f7 := fb2.ext c6
  refine sp rfl (px_load rfl (f7.load1 rfl Tryz.isAgg9)) ?_
  refine sx_guardT rfl rfl rfl ?_
  have f8 := f5.ext c6
  refine sx_call rfl rfl Tryz.call79 (c_iCurKnown f8) (fun v9 w9 p9 => ?_)
  obtain ⟨rfl, c9⟩ := p9
  have zw9 := c9.size
  refine sp rfl (px_pick rfl rfl) ?_
  refine mv rfl rfl ?_
  refine sx_tmpP (t := 11) rfl (fun h36x1 => ?_) (fun h36x1 => ?_)
  ·
   refine sx_guardT rfl rfl rfl ?_
   refine sp rfl (px_field rfl xfld99x0) ?_
   refine sx_guardT rfl rfl rfl ?_
   have f10 := f7.ext c9
   refine sp rfl (px_load rfl (f10.load1 rfl Tryz.isAgg9)) ?_
   refine sx_guardT rfl rfl rfl ?_
   refine sp rfl (px_field rfl xfld99x1) ?_
   refine sx_guardT rfl rfl rfl ?_
   refine sp rfl (px_load rfl (f10.load1 rfl Tryz.isAgg9)) ?_
   refine sx_guardT rfl rfl rfl ?_
   refine sp rfl (px_neS rfl rfl) ?_
   refine sp rfl (px_pick rfl rfl) ?_
   refine mv rfl rfl ?_
   refine sx_tmpP (t := 18) rfl (fun h36x2 => ?_) (fun h36x2 => ?_)
   ·
    refine sx_guardT rfl rfl rfl ?_
    refine sp rfl (px_field rfl xfld99x2) ?_
    refine sx_guardT rfl rfl rfl ?_
    refine sp rfl (px_load rfl (f10.loadA (vs := [.bool n1, v1, .int .i64 p1]) (look_lit rfl) Tryz.isAgg63 Tryz.sizeOf63)) ?_
    refine sx_guardT rfl rfl rfl ?_
    have f11 := hv10.ext cb2
    have f13 := (f11.ext c6).ext c9
    refine sx_call rfl rfl Tryz.call83 (c_iDecOk f13 (by omega)) (fun v14 w14 p14 => ?_)
    obtain ⟨rfl, c14⟩ := p14
    have zw14 := c14.size
    refine sp rfl (px_pick rfl rfl) ?_
    refine mv rfl rfl ?_
    refine sx_tmpP (t := 23) rfl (fun h36x3 => ?_) (fun h36x3 => ?_)
    ·
     have hD := h36x3
     obtain ⟨x1, rfl, rfl, hx1⟩ := hD.int
     have hvx := vI_ng x1
     have hsx := sign_gt (x := x1)
     have hcx := cmpI_gt0 (x := x1)
     refine sx_guardT rfl rfl rfl ?_
     refine sp rfl (px_field rfl xfld99x2) ?_
     refine sx_guardT rfl rfl rfl ?_
     refine sp rfl (px_field rfl xfld63x0) ?_
     refine sx_guardT rfl rfl rfl ?_
     have f15 := f10.ext c14
     refine sp rfl (px_load rfl (f15.loadA (vs := [.bool (ng x1), v1]) (look_lit rfl) Tryz.isAgg28 Tryz.sizeOf28)) ?_
     refine sx_guardT rfl rfl rfl ?_
     have f16 := f13.ext c14
     refine sx_call rfl rfl Tryz.call143 (c_intSign f16 (by omega)) (fun v17 w17 p17 => ?_)
     obtain ⟨rfl, c17⟩ := p17
     have zw17 := c17.size
     refine sx_guardT rfl rfl rfl ?_
     refine sp rfl (px_gt rfl rfl) ?_
     refine sp rfl (px_pick rfl rfl) ?_
     refine mv rfl rfl ?_
     refine sx_tmpP (t := 30) rfl (fun h36x4 => ?_) (fun h36x4 => ?_)
     ·
      refine sx_guardT rfl rfl rfl ?_
      refine sp rfl (px_field rfl xfld99x2) ?_
      refine sx_guardT rfl rfl rfl ?_
      refine sp rfl (px_field rfl xfld63x0) ?_
      refine sx_guardT rfl rfl rfl ?_
      refine sp rfl (px_field rfl xfld28x1) ?_
      refine sx_guardT rfl rfl rfl ?_
      have f18 := f15.ext c17
      refine sp rfl (px_load rfl (f18.load1 rfl Tryz.isAgg26)) ?_
      refine sx_guardT rfl rfl rfl ?_
      have f19 := f16.ext c17
      refine sp rfl (px_len rfl Tryz.underlying26 f19) ?_
      refine sx_guardT rfl rfl rfl ?_
      refine sp rfl (px_le rfl rfl) ?_
      refine sp rfl (px_pick rfl rfl) ?_
      refine av rfl rfl (wl_nil (q_n (k4 _ _ ?_)))
      refine sx_sub (Sub.c 2 rfl .nil) ?_
      refine sx_retc ?_
      refine sx_ret1 Tryz.results117 rfl ?_
      exact ⟨(by first | exact bTrue (by grind [RateP]) | exact bFalse (by grind [RateP]) | exact bIff (by grind [RateP])), ((((cb2.t c6).t c9).t c14).t c17)⟩
     refine sx_guardF rfl rfl rfl rfl rfl rfl ?_
     refine sx_guardF rfl rfl rfl rfl rfl rfl ?_
     refine sx_guardF rfl rfl rfl rfl rfl rfl ?_
     refine sx_guardF rfl rfl rfl rfl rfl rfl ?_
     refine sx_guardF rfl rfl rfl rfl rfl rfl ?_
     refine sx_guardF rfl rfl rfl rfl rfl rfl ?_
     refine sp rfl (px_pick rfl rfl) ?_
     refine av rfl rfl (wl_nil (q_n (k4 _ _ ?_)))
     refine sx_sub (Sub.c 2 rfl .nil) ?_
     refine sx_retc ?_
     refine sx_ret1 Tryz.results117 rfl ?_
     exact ⟨(by first | exact bTrue (by grind [RateP]) | exact bFalse (by grind [RateP]) | exact bIff (by grind [RateP])), ((((cb2.t c6).t c9).t c14).t c17)⟩
    refine sx_guardF rfl rfl rfl rfl rfl rfl ?_
    refine sx_guardF rfl rfl rfl rfl rfl rfl ?_
    refine sx_guardF rfl rfl rfl rfl rfl rfl ?_
    refine sx_guardF rfl rfl rfl rfl rfl rfl ?_
    refine sx_guardF rfl rfl rfl rfl rfl rfl ?_
    refine sp rfl (px_pick rfl rfl) ?_
    refine mv rfl rfl ?_
    refine sx_guardF rfl rfl rfl rfl rfl rfl ?_
    refine sx_guardF rfl rfl rfl rfl rfl rfl ?_
    refine sx_guardF rfl rfl rfl rfl rfl rfl ?_
    refine sx_guardF rfl rfl rfl rfl rfl rfl ?_
    refine sx_guardF rfl rfl rfl rfl rfl rfl ?_
    refine sx_guardF rfl rfl rfl rfl rfl rfl ?_
    refine sp rfl (px_pick rfl rfl) ?_
    refine av rfl rfl (wl_nil (q_n (k4 _ _ ?_)))
    refine sx_sub (Sub.c 2 rfl .nil) ?_
    refine sx_retc ?_
    refine sx_ret1 Tryz.results117 rfl ?_
    exact ⟨(by first | exact bTrue (by grind [RateP]) | exact bFalse (by grind [RateP]) | exact bIff (by grind [RateP])), (((cb2.t c6).t c9).t c14)⟩
   refine sx_guardF rfl rfl rfl rfl rfl rfl ?_
   refine sx_guardF rfl rfl rfl rfl rfl rfl ?_
   refine sx_guardF rfl rfl rfl rfl rfl rfl ?_
   refine sp rfl (px_pick rfl rfl) ?_
   refine mv rfl rfl ?_
   refine sx_guardF rfl rfl rfl rfl rfl rfl ?_
   refine sx_guardF rfl rfl rfl rfl rfl rfl ?_
   refine sx_guardF rfl rfl rfl rfl rfl rfl ?_
   refine sx_guardF rfl rfl rfl rfl rfl rfl ?_
   refine sx_guardF rfl rfl rfl rfl rfl rfl ?_
   refine sp rfl (px_pick rfl rfl) ?_
   refine mv rfl rfl ?_
   refine sx_guardF rfl rfl rfl rfl rfl rfl ?_
   refine sx_guardF rfl rfl rfl rfl rfl rfl ?_
   refine sx_guardF rfl rfl rfl rfl rfl rfl ?_
   refine sx_guardF rfl rfl rfl rfl rfl rfl ?_
   refine sx_guardF rfl rfl rfl rfl rfl rfl ?_
   refine sx_guardF rfl rfl rfl rfl rfl rfl ?_
   refine sp rfl (px_pick rfl rfl) ?_
   refine av rfl rfl (wl_nil (q_n (k4 _ _ ?_)))
   refine sx_sub (Sub.c 2 rfl .nil) ?_
   refine sx_retc ?_
   refine sx_ret1 Tryz.results117 rfl ?_
   exact ⟨(by first | exact bTrue (by grind [RateP]) | exact bFalse (by grind [RateP]) | exact bIff (by grind [RateP])), ((cb2.t c6).t c9)⟩
  refine sx_guardF rfl rfl rfl rfl rfl rfl ?_
  refine sx_guardF rfl rfl rfl rfl rfl rfl ?_
  refine sx_guardF rfl rfl rfl rfl rfl rfl ?_
  refine sx_guardF rfl rfl rfl rfl rfl rfl ?_
  refine sx_guardF rfl rfl rfl rfl rfl rfl ?_
  refine sp rfl (px_pick rfl rfl) ?_
  refine mv rfl rfl ?_
  refine sx_guardF rfl rfl rfl rfl rfl rfl ?_
  refine sx_guardF rfl rfl rfl rfl rfl rfl ?_
  refine sx_guardF rfl rfl rfl rfl rfl rfl ?_
  refine sp rfl (px_pick rfl rfl) ?_
  refine mv rfl rfl ?_
  refine sx_guardF rfl rfl rfl rfl rfl rfl ?_
  refine sx_guardF rfl rfl rfl rfl rfl rfl ?_
  refine sx_guardF rfl rfl rfl rfl rfl rfl ?_
  refine sx_guardF rfl rfl rfl rfl rfl rfl ?_
  refine sx_guardF rfl rfl rfl rfl rfl rfl ?_
  refine sp rfl (px_pick rfl rfl) ?_
  refine mv rfl rfl ?_
  refine sx_guardF rfl rfl rfl rfl rfl rfl ?_
  refine sx_guardF rfl rfl rfl rfl rfl rfl ?_
  refine sx_guardF rfl rfl rfl rfl rfl rfl ?_
  refine sx_guardF rfl rfl rfl rfl rfl rfl ?_
  refine sx_guardF rfl rfl rfl rfl rfl rfl ?_
  refine sx_guardF rfl rfl rfl rfl rfl rfl ?_
  refine sp rfl (px_pick rfl rfl) ?_
  refine av rfl rfl (wl_nil (q_n (k4 _ _ ?_)))
  refine sx_sub (Sub.c 2 rfl .nil) ?_
  refine sx_retc ?_
  refine sx_ret1 Tryz.results117 rfl ?_
  exact ⟨(by first | exact bTrue (by grind [RateP]) | exact bFalse (by grind [RateP]) | exact bIff (by grind [RateP])), ((cb2.t c6).t c9)⟩
 refine sx_guardF rfl rfl rfl rfl rfl rfl ?_
 refine sx_guardF rfl rfl rfl rfl rfl rfl ?_
 refine sx_guardF rfl rfl rfl rfl rfl rfl ?_
 refine sp rfl (px_pick rfl rfl) ?_
 refine mv rfl rfl ?_
 refine sx_guardF rfl rfl rfl rfl rfl rfl ?_
 refine sx_guardF rfl rfl rfl rfl rfl rfl ?_
 refine sx_guardF rfl rfl rfl rfl rfl rfl ?_
 refine sx_guardF rfl rfl rfl rfl rfl rfl ?_
 refine sx_guardF rfl rfl rfl rfl rfl rfl ?_
 refine sp rfl (px_pick rfl rfl) ?_
 refine mv rfl rfl ?_
 refine sx_guardF rfl rfl rfl rfl rfl rfl ?_
 refine sx_guardF rfl rfl rfl rfl rfl rfl ?_
 refine sx_guardF rfl rfl rfl rfl rfl rfl ?_
 refine sp rfl (px_pick rfl rfl) ?_
 refine mv rfl rfl ?_
 refine sx_guardF rfl rfl rfl rfl rfl rfl ?_
 refine sx_guardF rfl rfl rfl rfl rfl rfl ?_
 refine sx_guardF rfl rfl rfl rfl rfl rfl ?_
 refine sx_guardF rfl rfl rfl rfl rfl rfl ?_
 refine sx_guardF rfl rfl rfl rfl rfl rfl ?_
 refine sp rfl (px_pick rfl rfl) ?_
 refine mv rfl rfl ?_
 refine sx_guardF rfl rfl rfl rfl rfl rfl ?_
 refine sx_guardF rfl rfl rfl rfl rfl rfl ?_
 refine sx_guardF rfl rfl rfl rfl rfl rfl ?_
 refine sx_guardF rfl rfl rfl rfl rfl rfl ?_
 refine sx_guardF rfl rfl rfl rfl rfl rfl ?_
 refine sx_guardF rfl rfl rfl rfl rfl rfl ?_
 refine sp rfl (px_pick rfl rfl) ?_
 refine av rfl rfl (wl_nil (q_n (k4 _ _ ?_)))
 refine sx_sub (Sub.c 2 rfl .nil) ?_
 refine sx_retc ?_
 refine sx_ret1 Tryz.results117 rfl ?_
 exact ⟨(by first | exact bTrue (by grind [RateP]) | exact bFalse (by grind [RateP]) | exact bIff (by grind [RateP])), (cb2.t c6)⟩

theorem c_iRatesOk {w : World} {pv : ByteArray} {vt : Value} {lvt uvt : Nat} {ts : List Rt} {vvt : List Value} (hG0 : Glob w) (hvt : RtS w lvt uvt vt ts vvt) (h63 : ts.length ≤ 4611686018427387904) (hz : ∀ i, i < ts.length → (ts.getD i rt0).2.2.2.1.length ≤ 4611686018427387904) :
  Ret Tryz.prog 78 [.agg #[.string pv, vt]] w fun v w' => v = .bool (decide (RsOk pv ts)) ∧ Chg 0 0 w w' := by
 have hvt0 := hvt.fit
 refine sx_enter Tryz.func78 rfl Tryz.ntmps78 (nbl rfl) ?_
 refine sx_seq fun K1 k1 => sx_region ?_
 refine sx_box [.string pv, vt] rfl rfl rfl (fun b2 w3 eb2 sb2 fb2 cb2 => ?_)
 have zw3 := cb2.size
 refine av rfl rfl (wl_nil (q_n (k1 _ _ ?_)))
 refine sx_seq fun K4 k4 => ?_
 refine sx_seq fun K5 k5 => sx_region ?_
 refine sp rfl (px_field rfl xfld35x0) ?_
 refine sp rfl (px_load rfl (fb2.load1 rfl Tryz.isAgg9)) ?_
 have f6 := hG0.ext cb2
 refine sx_call rfl rfl Tryz.call79 (c_iCurKnown f6) (fun v7 w7 p7 => ?_)
 obtain ⟨rfl, c7⟩ := p7
 have zw7 := c7.size
 refine sp rfl (px_notP rfl) ?_
 refine mv rfl rfl ?_
 refine sx_tmpP (t := 11) rfl (fun h41 => ?_) (fun h41 => ?_)
 ·
  refine sx_guardF rfl rfl rfl rfl rfl rfl ?_
  refine sx_guardF rfl rfl rfl rfl rfl rfl ?_
  refine sx_guardF rfl rfl rfl rfl rfl rfl ?_
  refine sx_guardF rfl rfl rfl rfl rfl rfl ?_
  refine sp rfl (px_pick rfl rfl) ?_
  refine wl_nil (q_n (k5 _ _ ?_))
  refine sx_condT rfl ?_
  refine sx_seq fun K8 k8 => sx_region ?_
  refine av rfl rfl (wl_nil (q_n (k8 _ _ ?_)))
  refine sx_retc ?_
  refine q_r (sx_ret1 Tryz.results78 rfl ?_)
  exact ⟨bFalse (fun h => by first | exact absurd h.1 (by assumption) | (have := h.2.1; omega)), (cb2.t c7)⟩
 refine sx_guardT rfl rfl rfl ?_
 refine sp rfl (px_field rfl xfld35x1) ?_
 refine sx_guardT rfl rfl rfl ?_
 have f9 := fb2.ext c7
 refine sp rfl (px_load rfl (f9.load1 rfl Tryz.isAgg33)) ?_
 refine sx_guardT rfl rfl rfl ?_
 have f10 := hvt0.ext cb2
 have f11 := f10.ext c7
 refine sp rfl (px_len rfl Tryz.underlying33 f11.sv) ?_
 refine sx_guardT rfl rfl rfl ?_
 refine sp rfl (px_gt rfl rfl) ?_
 refine sp rfl (px_pick rfl rfl) ?_
 refine wl_nil (q_n (k5 _ _ ?_))
 refine sx_condP rfl (fun h41x1 => ?_) (fun h41x1 => ?_)
 ·
  refine sx_seq fun K12 k12 => sx_region ?_
  refine av rfl rfl (wl_nil (q_n (k12 _ _ ?_)))
  refine sx_retc ?_
  refine q_r (sx_ret1 Tryz.results78 rfl ?_)
  exact ⟨bFalse (fun h => by first | exact absurd h.1 (by assumption) | (have := h.2.1; omega)), (cb2.t c7)⟩
 refine sx_skip ?_
 refine q_n (k4 _ _ ?_)
 refine sx_seq fun K13 k13 => sx_region ?_
 refine sx_makeMap rfl (fun b14 w15 eb14 sb14 fb14 cb14 => ?_)
 have zw15 := cb14.size
 refine av rfl rfl (wl_nil (q_n (k13 _ _ ?_)))
 refine sx_sub (Sub.c 1 rfl (.c 2 rfl (.c 3 rfl .nil))) ?_
 refine sx_seq fun K16 k16 => ?_
 refine sx_seq fun K17 k17 => sx_region ?_
 refine sp rfl (px_field rfl xfld35x1) ?_
 have f18 := f9.ext cb14
 refine sp rfl (px_load rfl (f18.load1 rfl Tryz.isAgg33)) ?_
 have f19 := f11.ext cb14
 refine sp rfl (px_len rfl Tryz.underlying33 f19.sv) ?_
 refine mv rfl rfl (wl_nil (q_n (k17 _ _ ?_)))
 refine sx_block ?_
 refine sx_loop (fun mm aa w' => ∃ (k : Nat), Agr 41 [(3, .map (some b14)), (19, vt), (20, .int .i64 (↑(ts).length)), (21, .int .i64 ↑k)] aa ∧ Chg b14 (b14 + 1) w15 w' ∧ Mp w' b14 (keysTo ts k) ∧ (mm = ts.length - k) ∧ (k ≤ ts.length) ∧ (AllTo ts k)) (_) (fun a ha => ⟨0, ha.sub (Sub.c 3 rfl (.c 19 rfl (.c 20 (look_int (t := 20) rfl (by first | omega | simp)) (.c 21 (look_int (t := 21) rfl (by first | omega | simp)) .nil)))), Chg.refl _ _ _, (by rw [show keysTo ts 0 = [] by simp [keysTo]]; exact fb14), rfl, by omega, AllTo_zero ts⟩) ?_
 rintro mm aa wl20 ⟨k, hAwl20, cwl20, hs_Mb14, hm, hk, hall⟩
 refine (show cw Tryz.prog 41 _ _ _ wl20 from ?_) aa hAwl20
 clear hAwl20
 have zwl20 := cwl20.size
 refine sx_seq fun K21 k21 => sx_region ?_
 refine sp rfl (px_lt rfl rfl) ?_
 refine wl_nil (q_n (k21 _ _ ?_))
 refine sx_seq fun K22 k22 => ?_
 refine sx_condP rfl (fun h45 => ?_) (fun h45 => ?_)
 ·
  refine sx_skip ?_
  refine q_n (k22 _ _ ?_)
  refine sx_seq fun K23 k23 => ?_
  refine sx_block ?_
  refine sx_seq fun K24 k24 => sx_region ?_
  have f25 := f19.chg cwl20 (by omega)
  refine sp rfl (px_indexK (j := k) rfl rfl (by omega) Tryz.underlying33 Tryz.sizeOf99 f25.sv (by omega)) ?_
  refine sp rfl (px_load rfl (f25.sv.loadA (rt_look f25.len (by omega)) Tryz.isAgg99 Tryz.sizeOf99)) ?_
  refine sx_alloc [.string (⟨#[]⟩), .string (⟨#[]⟩), .bool false, (.slice none 0 0), .int .i64 0] rfl Tryz.zeroValue99 rfl (fun b26 w27 eb26 sb26 fb26 cb26 => ?_)
  have zw27 := cb26.size
  have f29 := (f25.nest k (by omega)).ext cb26
  refine sx_store (vs := [.string ((ts.getD k rt0).1), .string ((ts.getD k rt0).2.1), .bool ((ts.getD k rt0).2.2.1), (vvt.getD k vz), .int .i64 ((ts.getD k rt0).2.2.2.2)]) rfl rfl fb26 rfl Tryz.sizeOf99 (nbl rfl) (one_cons rfl (one_cons rfl (one_cons rfl (one_cons f29.one (o1 rfl))))) (fun w28 sw28 fw28 cw28 => ?_)
  have zw28 := cw28.size
  have gw28 : Blk w28 b26 [.string ((ts.getD k rt0).1), .string ((ts.getD k rt0).2.1), .bool ((ts.getD k rt0).2.2.1), (vvt.getD k vz), .int .i64 ((ts.getD k rt0).2.2.2.2)] 99 := fw28
  refine wl_nil (q_n (k24 _ _ ?_))
  refine sx_seq fun K30 k30 => sx_region ?_
  refine sp rfl (px_field rfl xfld99x0) ?_
  refine sp rfl (px_load rfl (gw28.load1 rfl Tryz.isAgg9)) ?_
  refine sp rfl (px_field rfl xfld99x1) ?_
  refine sp rfl (px_load rfl (gw28.load1 rfl Tryz.isAgg9)) ?_
  refine sp rfl (px_build rfl (xbld67x0x1 rfl rfl _)) ?_
  refine sx_alloc [.string (⟨#[]⟩), .string (⟨#[]⟩)] rfl Tryz.zeroValue67 rfl (fun b31 w32 eb31 sb31 fb31 cb31 => ?_)
  have zw32 := cb31.size
  refine sx_store (vs := [.string ((ts.getD k rt0).1), .string ((ts.getD k rt0).2.1)]) rfl rfl fb31 rfl Tryz.sizeOf67 (nbl rfl) (o2 rfl rfl) (fun w33 sw33 fw33 cw33 => ?_)
  have zw33 := cw33.size
  have gw33 : Blk w33 b31 [.string ((ts.getD k rt0).1), .string ((ts.getD k rt0).2.1)] 67 := fw33
  refine wl_nil (q_n (k30 _ _ ?_))
  refine sx_seq fun K34 k34 => ?_
  refine sx_seq fun K35 k35 => sx_region ?_
  have f36 := gw28.ext cb31
  have f37 := f36.chg cw33 (by omega)
  refine sp rfl (px_load rfl (f37.loadA (vs := [.string ((ts.getD k rt0).1), .string ((ts.getD k rt0).2.1), .bool ((ts.getD k rt0).2.2.1), (vvt.getD k vz), .int .i64 ((ts.getD k rt0).2.2.2.2)]) (look_lit rfl) Tryz.isAgg99 Tryz.sizeOf99)) ?_
  have f39 := (f6.ext c7).ext cb14
  have f40 := f39.chg cwl20 (by omega)
  have f41 := f40.ext cb26
  have f42 := f41.chg cw28 (by omega)
  have f43 := f42.ext cb31
  have f44 := f43.chg cw33 (by omega)
  have f45 := f29.chg cw28 (by omega)
  have f46 := f45.ext cb31
  have f47 := f46.chg cw33 (by omega)
  refine sx_call rfl rfl Tryz.call117 (c_iRateOk f44 f47 (hz k (by omega))) (fun v48 w48 p48 => ?_)
  obtain ⟨rfl, c48⟩ := p48
  have zw48 := c48.size
  refine sp rfl (px_notP rfl) ?_
  refine mv rfl rfl ?_
  refine sx_tmpP (t := 33) rfl (fun h47 => ?_) (fun h47 => ?_)
  ·
   refine sx_guardF rfl rfl rfl rfl rfl rfl ?_
   refine sx_guardF rfl rfl rfl rfl rfl rfl ?_
   refine sx_guardF rfl rfl rfl rfl rfl rfl ?_
   refine sp rfl (px_pick rfl rfl) ?_
   refine wl_nil (q_n (k35 _ _ ?_))
   refine sx_sub (Sub.c 3 rfl (.c 6 rfl (.c 19 rfl (.c 20 rfl (.c 21 rfl (.c 37 rfl .nil)))))) ?_
   refine sx_condT rfl ?_
   refine sx_seq fun K49 k49 => sx_region ?_
   refine av rfl rfl (wl_nil (q_n (k49 _ _ ?_)))
   refine sx_retc ?_
   refine q_r (q_br (q_r (q_r (q_br (q_r (sx_ret1 Tryz.results78 rfl ?_))))))
   have q50 := Chg.step (l := 0) (h := 0) (Chg.zero (l := 0) (h := 0) ((cb2.t c7).t cb14)) cwl20 (by omega)
   have q51 := Chg.step (l := 0) (h := 0) q50 cb26 (by omega)
   have q52 := Chg.step (l := 0) (h := 0) q51 cw28 (by omega)
   have q53 := Chg.step (l := 0) (h := 0) q52 cb31 (by omega)
   have q54 := Chg.step (l := 0) (h := 0) q53 cw33 (by omega)
   have q55 := Chg.step (l := 0) (h := 0) q54 c48 (by omega)
   exact ⟨(by first | exact bFalse (rsok_no_rate (k := k) (by omega) h47) | exact bFalse (rsok_no_key (k := k) (by omega) (fun hh => by obtain ⟨i, hi, hs⟩ := (mem_keysTo (by omega)).1 h47x1; exact hh i hi hs))), q55⟩
  refine sx_guardT rfl rfl rfl ?_
  refine mv rfl rfl ?_
  refine sx_guardT rfl rfl rfl ?_
  have f56 := gw33.ext c48
  refine sp rfl (px_load rfl (f56.loadA (vs := [.string ((ts.getD k rt0).1), .string ((ts.getD k rt0).2.1)]) (look_lit rfl) Tryz.isAgg67 Tryz.sizeOf67)) ?_
  refine sx_guardT rfl rfl rfl ?_
  have f57 := hs_Mb14.ext cb26
  have f58 := f57.chg cw28 (by omega)
  have f59 := f58.ext cb31
  have f60 := f59.chg cw33 (by omega)
  have f61 := f60.ext c48
  refine sp rfl (px_lookupM rfl rfl Tryz.underlying134 xpair67 Tryz.zeroValue4 f61) ?_
  refine sp rfl (px_pick rfl rfl) ?_
  refine wl_nil (q_n (k35 _ _ ?_))
  refine sx_sub (Sub.c 3 rfl (.c 6 rfl (.c 19 rfl (.c 20 rfl (.c 21 rfl (.c 37 rfl .nil)))))) ?_
  refine sx_condP rfl (fun h47x1 => ?_) (fun h47x1 => ?_)
  ·
   refine sx_seq fun K62 k62 => sx_region ?_
   refine av rfl rfl (wl_nil (q_n (k62 _ _ ?_)))
   refine sx_retc ?_
   refine q_r (q_br (q_r (q_r (q_br (q_r (sx_ret1 Tryz.results78 rfl ?_))))))
   have q63 := Chg.step (l := 0) (h := 0) (Chg.zero (l := 0) (h := 0) ((cb2.t c7).t cb14)) cwl20 (by omega)
   have q64 := Chg.step (l := 0) (h := 0) q63 cb26 (by omega)
   have q65 := Chg.step (l := 0) (h := 0) q64 cw28 (by omega)
   have q66 := Chg.step (l := 0) (h := 0) q65 cb31 (by omega)
   have q67 := Chg.step (l := 0) (h := 0) q66 cw33 (by omega)
   have q68 := Chg.step (l := 0) (h := 0) q67 c48 (by omega)
   exact ⟨(by first | exact bFalse (rsok_no_rate (k := k) (by omega) h47) | exact bFalse (rsok_no_key (k := k) (by omega) (fun hh => by obtain ⟨i, hi, hs⟩ := (mem_keysTo (by omega)).1 h47x1; exact hh i hi hs))), q68⟩
  refine sx_skip ?_
  refine q_n (k34 _ _ ?_)
  refine sx_region ?_
  refine mv rfl rfl (sp rfl (px_load rfl (f56.loadA (vs := [.string ((ts.getD k rt0).1), .string ((ts.getD k rt0).2.1)]) (look_lit rfl) Tryz.isAgg67 Tryz.sizeOf67)) ?_)
  refine sx_mapUpdateM rfl rfl rfl Tryz.underlying134 xpair67 f61 (by assumption) (fun w69 sw69 fw69 cw69 => ?_)
  have zw69 := cw69.size
  refine wl_nil ?_
  refine q_bn (q_n (k23 _ _ ?_))
  refine sx_region ?_
  refine sp rfl (px_add rfl rfl (by omega)) ?_
  refine mv rfl rfl (wl_nil ?_)
  have q70 := Chg.step (l := b14) (h := (b14 + 1)) cwl20 cb26 (by omega)
  have q71 := Chg.step (l := b14) (h := (b14 + 1)) q70 cw28 (by omega)
  have q72 := Chg.step (l := b14) (h := (b14 + 1)) q71 cb31 (by omega)
  have q73 := Chg.step (l := b14) (h := (b14 + 1)) q72 cw33 (by omega)
  have q74 := Chg.step (l := b14) (h := (b14 + 1)) q73 c48 (by omega)
  have q75 := Chg.step (l := b14) (h := (b14 + 1)) q74 cw69 (by omega)
  exact fun a ha => ⟨_, by omega, (k + 1), ha.sub (Sub.c 3 rfl (.c 19 rfl (.c 20 rfl (.c 21 (look_int (t := 21) rfl (by first | omega | simp)) .nil)))), q75, (by rw [keysTo_succ (by omega)]; exact fw69), rfl, by omega, AllTo_succ hall (Decidable.not_not.1 h47) (fun i hi hs => h47x1 ((mem_keysTo (by omega)).2 ⟨i, hi, hs⟩))⟩
 refine sx_exit ?_
 refine q_e (q_e (q_bx (q_n (k16 _ _ ?_))))
 refine sx_seq fun K76 k76 => sx_region ?_
 refine av rfl rfl (wl_nil (q_n (k76 _ _ ?_)))
 refine sx_retc ?_
 refine sx_ret1 Tryz.results78 rfl ?_
 have ek : k = ts.length := by omega
 subst ek
 have q77 := Chg.step (l := 0) (h := 0) (Chg.zero (l := 0) (h := 0) ((cb2.t c7).t cb14)) cwl20 (by omega)
 exact ⟨bTrue ⟨Decidable.not_not.1 h41, by omega, hall⟩, q77⟩

theorem c_listed {w : World} {pv : ByteArray} {vt : Value} {lvt uvt : Nat} {ts : List Rt} {vvt : List Value} {a : ByteArray} {b : ByteArray} (hvt : RtS w lvt uvt vt ts vvt) (h63 : ts.length ≤ 4611686018427387904) :
  Ret Tryz.prog 37 [.agg #[.string pv, vt], .agg #[.string a, .string b]] w fun v w' => ∃ s, v = .tuple #[.agg #[.bool ((lst ts a b).1), s, .int .i64 ((lst ts a b).2.2.1)], .bool ((lst ts a b).2.2.2)] ∧ Sl w' (lvt) (w.heap.size) s ((lst ts a b).2.1) ∧ Chg 0 0 w w' := by
 have hvt0 := hvt.fit
 refine sx_enter Tryz.func37 rfl Tryz.ntmps37 (nbl rfl) ?_
 refine sx_seq fun K1 k1 => sx_region ?_
 refine sx_box [.string pv, vt] rfl rfl rfl (fun b2 w3 eb2 sb2 fb2 cb2 => ?_)
 have zw3 := cb2.size
 refine sx_box [.string a, .string b] rfl rfl rfl (fun b4 w5 eb4 sb4 fb4 cb4 => ?_)
 have zw5 := cb4.size
 refine sx_alloc [.bool false, (.slice none 0 0), .int .i64 0] rfl Tryz.zeroValue63 rfl (fun b6 w7 eb6 sb6 fb6 cb6 => ?_)
 have zw7 := cb6.size
 refine av rfl rfl (wl_nil (q_n (k1 _ _ ?_)))
 refine sx_seq fun K8 k8 => ?_
 refine sx_seq fun K9 k9 => sx_region ?_
 refine sp rfl (px_field rfl xfld35x1) ?_
 have f10 := fb2.ext cb4
 have f11 := f10.ext cb6
 refine sp rfl (px_load rfl (f11.load1 rfl Tryz.isAgg33)) ?_
 have f12 := hvt0.ext cb2
 have f13 := f12.ext cb4
 have f14 := f13.ext cb6
 refine sp rfl (px_len rfl Tryz.underlying33 f14.sv) ?_
 refine mv rfl rfl (wl_nil (q_n (k9 _ _ ?_)))
 refine sx_block ?_
 have f16 := fb4.ext cb6
 refine sx_loop (fun mm aa w' => ∃ (k : Nat), Agr 26 [(3, .pointer (some ⟨b4, 0, none⟩)), (4, .pointer (some ⟨b6, 0, none⟩)), (9, vt), (10, .int .i64 (↑(ts).length)), (11, .int .i64 ↑k)] aa ∧ Chg 0 0 w7 w' ∧ Blk w' b4 [.string a, .string b] 67 ∧ Blk w' b6 [.bool false, (.slice none 0 0), .int .i64 0] 63 ∧ (mm = ts.length - k) ∧ (k ≤ ts.length) ∧ (∀ i, i < k → ¬ ((ts.getD i rt0).1 = a ∧ (ts.getD i rt0).2.1 = b))) (_) (fun a ha => ⟨0, ha.sub (Sub.c 3 rfl (.c 4 rfl (.c 9 rfl (.c 10 (look_int (t := 10) rfl (by first | omega | simp)) (.c 11 (look_int (t := 11) rfl (by first | omega | simp)) .nil))))), Chg.refl _ _ _, f16, fb6, rfl, by omega, fun i hi => by omega⟩) ?_
 rintro mm aa wl15 ⟨k, hAwl15, cwl15, hb_b4, hb_b6, hm, hk, hn⟩
 refine (show cw Tryz.prog 26 _ _ _ wl15 from ?_) aa hAwl15
 clear hAwl15
 have zwl15 := cwl15.size
 refine sx_seq fun K17 k17 => sx_region ?_
 refine sp rfl (px_lt rfl rfl) ?_
 refine wl_nil (q_n (k17 _ _ ?_))
 refine sx_seq fun K18 k18 => ?_
 refine sx_condP rfl (fun h69 => ?_) (fun h69 => ?_)
 ·
  refine sx_skip ?_
  refine q_n (k18 _ _ ?_)
  refine sx_seq fun K19 k19 => ?_
  refine sx_block ?_
  refine sx_seq fun K20 k20 => sx_region ?_
  have f21 := f14.ext cwl15
  refine sp rfl (px_indexK (j := k) rfl rfl (by omega) Tryz.underlying33 Tryz.sizeOf99 f21.sv (by omega)) ?_
  refine sp rfl (px_load rfl (f21.sv.loadA (rt_look f21.len (by omega)) Tryz.isAgg99 Tryz.sizeOf99)) ?_
  refine sx_alloc [.string (⟨#[]⟩), .string (⟨#[]⟩), .bool false, (.slice none 0 0), .int .i64 0] rfl Tryz.zeroValue99 rfl (fun b22 w23 eb22 sb22 fb22 cb22 => ?_)
  have zw23 := cb22.size
  have f25 := (f21.nest k (by omega)).ext cb22
  refine sx_store (vs := [.string ((ts.getD k rt0).1), .string ((ts.getD k rt0).2.1), .bool ((ts.getD k rt0).2.2.1), (vvt.getD k vz), .int .i64 ((ts.getD k rt0).2.2.2.2)]) rfl rfl fb22 rfl Tryz.sizeOf99 (nbl rfl) (one_cons rfl (one_cons rfl (one_cons rfl (one_cons f25.one (o1 rfl))))) (fun w24 sw24 fw24 cw24 => ?_)
  have zw24 := cw24.size
  have gw24 : Blk w24 b22 [.string ((ts.getD k rt0).1), .string ((ts.getD k rt0).2.1), .bool ((ts.getD k rt0).2.2.1), (vvt.getD k vz), .int .i64 ((ts.getD k rt0).2.2.2.2)] 99 := fw24
  refine wl_nil (q_n (k20 _ _ ?_))
  refine sx_seq fun K26 k26 => sx_region ?_
  refine sp rfl (px_field rfl xfld99x0) ?_
  refine sp rfl (px_load rfl (gw24.load1 rfl Tryz.isAgg9)) ?_
  refine sp rfl (px_field rfl xfld99x1) ?_
  refine sp rfl (px_load rfl (gw24.load1 rfl Tryz.isAgg9)) ?_
  refine sp rfl (px_build rfl (xbld67x0x1 rfl rfl _)) ?_
  have f27 := hb_b4.ext cb22
  have f28 := f27.chg cw24 (by omega)
  refine sp rfl (px_load rfl (f28.loadA (vs := [.string a, .string b]) (look_lit rfl) Tryz.isAgg67 Tryz.sizeOf67)) ?_
  refine sp rfl (px_eqPair rfl rfl xpair67) ?_
  refine wl_nil (q_n (k26 _ _ ?_))
  refine sx_sub (Sub.c 3 rfl (.c 4 rfl (.c 7 rfl (.c 9 rfl (.c 10 rfl (.c 11 rfl (.c 21 rfl .nil))))))) ?_
  refine sx_condP rfl (fun h70 => ?_) (fun h70 => ?_)
  ·
   refine sx_seq fun K29 k29 => sx_region ?_
   refine sp rfl (px_field rfl xfld99x2) ?_
   refine sp rfl (px_load rfl (gw24.loadA (vs := [.bool ((ts.getD k rt0).2.2.1), (vvt.getD k vz), .int .i64 ((ts.getD k rt0).2.2.2.2)]) (look_lit rfl) Tryz.isAgg63 Tryz.sizeOf63)) ?_
   have f31 := hb_b6.ext cb22
   have f32 := f31.chg cw24 (by omega)
   have f33 := f25.chg cw24 (by omega)
   refine sx_store (vs := [.bool ((ts.getD k rt0).2.2.1), (vvt.getD k vz), .int .i64 ((ts.getD k rt0).2.2.2.2)]) rfl rfl f32 rfl Tryz.sizeOf63 (nbl rfl) (one_cons rfl (one_cons f33.one (o1 rfl))) (fun w30 sw30 fw30 cw30 => ?_)
   have zw30 := cw30.size
   have gw30 : Blk w30 b6 [.bool ((ts.getD k rt0).2.2.1), (vvt.getD k vz), .int .i64 ((ts.getD k rt0).2.2.2.2)] 63 := fw30
   refine av rfl rfl (wl_nil (q_n (k29 _ _ ?_)))
   refine sx_retc ?_
   refine q_br (q_r (q_r (q_br (q_r (sx_ret2 Tryz.results37 ⟨_, rfl, gw30.loadA (vs := [.bool ((ts.getD k rt0).2.2.1), (vvt.getD k vz), .int .i64 ((ts.getD k rt0).2.2.2.2)]) (look_lit rfl) Tryz.isAgg63 Tryz.sizeOf63⟩ rfl ?_)))))
   rw [lst_some (by omega) hn h70]
   have q34 := Chg.step (l := 0) (h := 0) (Chg.zero (l := 0) (h := 0) ((((cb2.t cb4).t cb6).t cwl15).t cb22)) cw24 (by omega)
   have q35 := Chg.step (l := 0) (h := 0) q34 cw30 (by omega)
   have f36 := f33.chg cw30 (by omega)
   exact ⟨_, rfl, (Sv.mono f36 (by omega) (by omega)), q35⟩
  refine sx_skip ?_
  refine q_bn (q_n (k19 _ _ ?_))
  refine sx_region ?_
  refine sp rfl (px_add rfl rfl (by omega)) ?_
  refine mv rfl rfl (wl_nil ?_)
  have q37 := Chg.step (l := 0) (h := 0) (Chg.zero (l := 0) (h := 0) (cwl15.t cb22)) cw24 (by omega)
  have f38 := hb_b6.ext cb22
  have f39 := f38.chg cw24 (by omega)
  exact fun a ha => ⟨_, by omega, (k + 1), ha.sub (Sub.c 3 rfl (.c 4 rfl (.c 9 rfl (.c 10 rfl (.c 11 (look_int (t := 11) rfl (by first | omega | simp)) .nil))))), q37, f28, f39, rfl, by omega, upto_next hn h70⟩
 refine sx_exit ?_
 refine q_e (q_e (q_bx (q_n (k8 _ _ ?_))))
 refine sx_seq fun K40 k40 => sx_region ?_
 refine sp rfl (px_build rfl (xbld63x  _)) ?_
 refine sx_store (vs := [.bool false, (.slice none 0 0), .int .i64 0]) rfl rfl hb_b6 rfl Tryz.sizeOf63 (nbl rfl) (o3 rfl rfl rfl) (fun w41 sw41 fw41 cw41 => ?_)
 have zw41 := cw41.size
 have gw41 : Blk w41 b6 [.bool false, (.slice none 0 0), .int .i64 0] 63 := fw41
 refine av rfl rfl (wl_nil (q_n (k40 _ _ ?_)))
 refine sx_retc ?_
 refine sx_ret2 Tryz.results37 ⟨_, rfl, gw41.loadA (vs := [.bool false, (.slice none 0 0), .int .i64 0]) (look_lit rfl) Tryz.isAgg63 Tryz.sizeOf63⟩ rfl ?_
 rw [lst_none (fun i hi => hn i (by omega))]
 have q42 := Chg.step (l := 0) (h := 0) (Chg.zero (l := 0) (h := 0) (((cb2.t cb4).t cb6).t cwl15)) cw41 (by omega)
 exact ⟨_, rfl, Sv.nil _ _ _ _, q42⟩

theorem c_simple {w : World} {pv : ByteArray} {vt : Value} {lvt uvt : Nat} {ts : List Rt} {vvt : List Value} {a : ByteArray} {b : ByteArray} (hvt : RtS w lvt uvt vt ts vvt) (h63 : ts.length ≤ 4611686018427387904) :
  Ret Tryz.prog 80 [.agg #[.string pv, vt], .string a, .string b] w fun v w' => v = .int .i64 (leg ts a b) ∧ Chg 0 0 w w' := by
 have hvt0 := hvt.fit
 refine sx_enter Tryz.func80 rfl Tryz.ntmps80 (nbl rfl) ?_
 refine sx_seq fun K1 k1 => sx_region ?_
 refine sx_box [.string pv, vt] rfl rfl rfl (fun b2 w3 eb2 sb2 fb2 cb2 => ?_)
 have zw3 := cb2.size
 refine av rfl rfl (wl_nil (q_n (k1 _ _ ?_)))
 refine sx_seq fun K4 k4 => ?_
 refine sx_seq fun K5 k5 => sx_region ?_
 refine sp rfl (px_load rfl (fb2.loadA (vs := [.string pv, vt]) (look_lit rfl) Tryz.isAgg35 Tryz.sizeOf35)) ?_
 refine mv rfl rfl (mv rfl rfl (sp rfl (px_build rfl (xbld67x0x1 rfl rfl _)) ?_))
 have f6 := hvt0.ext cb2
 refine sx_call rfl rfl Tryz.call37 (c_listed f6 (by omega)) (fun v7 w7 p7 => ?_)
 obtain ⟨s7, rfl, os_7, c7⟩ := p7
 have zw7 := c7.size
 refine mv rfl rfl (sp rfl (px_ex2 rfl rfl) ?_)
 refine sp rfl (px_ex2 rfl rfl) ?_
 refine sx_alloc [.bool false, (.slice none 0 0), .int .i64 0] rfl Tryz.zeroValue63 rfl (fun b8 w9 eb8 sb8 fb8 cb8 => ?_)
 have zw9 := cb8.size
 have f11 := os_7.ext cb8
 refine sx_store (vs := [.bool ((lst ts a b).1), s7, .int .i64 ((lst ts a b).2.2.1)]) rfl rfl fb8 rfl Tryz.sizeOf63 (nbl rfl) (one_cons rfl (one_cons f11.one (o1 rfl))) (fun w10 sw10 fw10 cw10 => ?_)
 have zw10 := cw10.size
 have gw10 : Blk w10 b8 [.bool ((lst ts a b).1), s7, .int .i64 ((lst ts a b).2.2.1)] 63 := fw10
 refine av rfl rfl (wl_nil (q_n (k5 _ _ ?_)))
 refine sx_sub (Sub.c 1 rfl (.c 2 rfl (.c 3 rfl (.c 6 rfl (.c 8 rfl .nil))))) ?_
 refine sx_seq fun K12 k12 => sx_region ?_
 refine mv rfl rfl (wl_nil (q_n (k12 _ _ ?_)))
 refine sx_condB rfl (fun h98 => ?_) (fun h98 => ?_)
 ·
  refine sx_seq fun K13 k13 => sx_region ?_
  refine av rfl rfl (wl_nil (q_n (k13 _ _ ?_)))
  refine sx_retc ?_
  refine q_r (sx_ret1 Tryz.results80 rfl ?_)
  have q14 := Chg.step (l := 0) (h := 0) (Chg.zero (l := 0) (h := 0) ((cb2.t c7).t cb8)) cw10 (by omega)
  exact ⟨(by rw [leg_2 h98]), q14⟩
 refine sx_skip ?_
 refine q_n (k4 _ _ ?_)
 refine sx_seq fun K15 k15 => ?_
 refine sx_seq fun K16 k16 => sx_region ?_
 have f18 := (fb2.ext c7).ext cb8
 have f19 := f18.chg cw10 (by omega)
 refine sp rfl (px_load rfl (f19.loadA (vs := [.string pv, vt]) (look_lit rfl) Tryz.isAgg35 Tryz.sizeOf35)) ?_
 refine mv rfl rfl (mv rfl rfl (sp rfl (px_build rfl (xbld67x0x1 rfl rfl _)) ?_))
 have f21 := (f6.ext c7).ext cb8
 have f22 := f21.chg cw10 (by omega)
 refine sx_call rfl rfl Tryz.call37 (c_listed f22 (by omega)) (fun v23 w23 p23 => ?_)
 obtain ⟨s23, rfl, os_23, c23⟩ := p23
 have zw23 := c23.size
 refine mv rfl rfl (sp rfl (px_ex2 rfl rfl) ?_)
 refine sp rfl (px_ex2 rfl rfl) ?_
 refine sx_alloc [.bool false, (.slice none 0 0), .int .i64 0] rfl Tryz.zeroValue63 rfl (fun b24 w25 eb24 sb24 fb24 cb24 => ?_)
 have zw25 := cb24.size
 have f27 := os_23.ext cb24
 refine sx_store (vs := [.bool ((lst ts b a).1), s23, .int .i64 ((lst ts b a).2.2.1)]) rfl rfl fb24 rfl Tryz.sizeOf63 (nbl rfl) (one_cons rfl (one_cons f27.one (o1 rfl))) (fun w26 sw26 fw26 cw26 => ?_)
 have zw26 := cw26.size
 have gw26 : Blk w26 b24 [.bool ((lst ts b a).1), s23, .int .i64 ((lst ts b a).2.2.1)] 63 := fw26
 refine av rfl rfl (wl_nil (q_n (k16 _ _ ?_)))
 refine sx_sub (Sub.c 6 rfl (.c 10 rfl .nil)) ?_
 refine sx_seq fun K28 k28 => sx_region ?_
 refine mv rfl rfl (wl_nil (q_n (k28 _ _ ?_)))
 refine sx_condB rfl (fun h101 => ?_) (fun h101 => ?_)
 ·
  refine sx_seq fun K29 k29 => sx_region ?_
  refine av rfl rfl (wl_nil (q_n (k29 _ _ ?_)))
  refine sx_retc ?_
  refine q_r (sx_ret1 Tryz.results80 rfl ?_)
  have q30 := Chg.step (l := 0) (h := 0) (Chg.zero (l := 0) (h := 0) ((cb2.t c7).t cb8)) cw10 (by omega)
  have q31 := Chg.step (l := 0) (h := 0) q30 (c23.t cb24) (by omega)
  have q32 := Chg.step (l := 0) (h := 0) q31 cw26 (by omega)
  exact ⟨(by rw [leg_3 h98 h101]), q32⟩
 refine sx_skip ?_
 refine q_n (k15 _ _ ?_)
 refine sx_seq fun K33 k33 => sx_region ?_
 refine av rfl rfl (wl_nil (q_n (k33 _ _ ?_)))
 refine sx_retc ?_
 refine sx_ret1 Tryz.results80 rfl ?_
 have q34 := Chg.step (l := 0) (h := 0) (Chg.zero (l := 0) (h := 0) ((cb2.t c7).t cb8)) cw10 (by omega)
 have q35 := Chg.step (l := 0) (h := 0) q34 (c23.t cb24) (by omega)
 have q36 := Chg.step (l := 0) (h := 0) q35 cw26 (by omega)
 exact ⟨(by rw [leg_0 h98 h101]), q36⟩

theorem c_iRateHow {w : World} {pv : ByteArray} {vt : Value} {lvt uvt : Nat} {ts : List Rt} {vvt : List Value} {a : ByteArray} {b : ByteArray} (hG0 : Glob w) (hvt : RtS w lvt uvt vt ts vvt) (h63 : ts.length ≤ 4611686018427387904) (hz : ∀ i, i < ts.length → (ts.getD i rt0).2.2.2.1.length ≤ 4611686018427387904) :
  Ret Tryz.prog 34 [.agg #[.string pv, vt], .string a, .string b] w fun v w' => v = .int .i64 (how pv ts a b) ∧ Chg 0 0 w w' := by
 have hvt0 := hvt.fit
 refine sx_enter Tryz.func34 rfl Tryz.ntmps34 (nbl rfl) ?_
 refine sx_seq fun K1 k1 => sx_region ?_
 refine sx_box [.string pv, vt] rfl rfl rfl (fun b2 w3 eb2 sb2 fb2 cb2 => ?_)
 have zw3 := cb2.size
 refine av rfl rfl (wl_nil (q_n (k1 _ _ ?_)))
 refine sx_seq fun K4 k4 => ?_
 refine sx_block ?_
 refine sx_seq fun K5 k5 => sx_region ?_
 refine sp rfl (px_load rfl (fb2.loadA (vs := [.string pv, vt]) (look_lit rfl) Tryz.isAgg35 Tryz.sizeOf35)) ?_
 have f6 := hG0.ext cb2
 have f7 := hvt0.ext cb2
 refine sx_call rfl rfl Tryz.call78 (c_iRatesOk f6 f7 (by omega) (by first | assumption | exact fun i hi => Nat.le_trans (hzz i hi) (by omega))) (fun v8 w8 p8 => ?_)
 obtain ⟨rfl, c8⟩ := p8
 have zw8 := c8.size
 refine sp rfl (px_notP rfl) ?_
 refine mv rfl rfl ?_
 refine sx_tmpP (t := 11) rfl (fun h110 => ?_) (fun h110 => ?_)
 ·
  refine sx_guardF rfl rfl rfl rfl rfl rfl ?_
  refine sx_guardF rfl rfl rfl rfl rfl rfl ?_
  refine sx_guardF rfl rfl rfl rfl rfl rfl ?_
  refine sp rfl (px_pick rfl rfl) ?_
  refine mv rfl rfl ?_
  refine sx_guardF rfl rfl rfl rfl rfl rfl ?_
  refine sx_guardF rfl rfl rfl rfl rfl rfl ?_
  refine sx_guardF rfl rfl rfl rfl rfl rfl ?_
  refine sp rfl (px_pick rfl rfl) ?_
  refine av rfl rfl (wl_nil (q_n (k5 _ _ ?_)))
  refine sx_sub (Sub.c 1 rfl (.c 2 rfl (.c 3 rfl (.c 6 rfl (.c 7 rfl .nil))))) ?_
  refine sx_condT rfl ?_
  refine sx_seq fun K9 k9 => sx_region ?_
  refine av rfl rfl (wl_nil (q_n (k9 _ _ ?_)))
  refine sx_retc ?_
  refine q_br (q_r (sx_ret1 Tryz.results34 rfl ?_))
  exact ⟨(by unfold how; first | grind | simp_all), (cb2.t c8)⟩
 refine sx_guardT rfl rfl rfl ?_
 refine mv rfl rfl ?_
 refine sx_guardT rfl rfl rfl ?_
 have f10 := f6.ext c8
 refine sx_call rfl rfl Tryz.call79 (c_iCurKnown f10) (fun v11 w11 p11 => ?_)
 obtain ⟨rfl, c11⟩ := p11
 have zw11 := c11.size
 refine sx_guardT rfl rfl rfl ?_
 refine sp rfl (px_notP rfl) ?_
 refine sp rfl (px_pick rfl rfl) ?_
 refine mv rfl rfl ?_
 refine sx_tmpP (t := 16) rfl (fun h110x1 => ?_) (fun h110x1 => ?_)
 ·
  refine sx_guardF rfl rfl rfl rfl rfl rfl ?_
  refine sx_guardF rfl rfl rfl rfl rfl rfl ?_
  refine sx_guardF rfl rfl rfl rfl rfl rfl ?_
  refine sp rfl (px_pick rfl rfl) ?_
  refine av rfl rfl (wl_nil (q_n (k5 _ _ ?_)))
  refine sx_sub (Sub.c 1 rfl (.c 2 rfl (.c 3 rfl (.c 6 rfl (.c 7 rfl .nil))))) ?_
  refine sx_condT rfl ?_
  refine sx_seq fun K12 k12 => sx_region ?_
  refine av rfl rfl (wl_nil (q_n (k12 _ _ ?_)))
  refine sx_retc ?_
  refine q_br (q_r (sx_ret1 Tryz.results34 rfl ?_))
  exact ⟨(by unfold how; first | grind | simp_all), ((cb2.t c8).t c11)⟩
 refine sx_guardT rfl rfl rfl ?_
 refine mv rfl rfl ?_
 refine sx_guardT rfl rfl rfl ?_
 have f13 := f10.ext c11
 refine sx_call rfl rfl Tryz.call79 (c_iCurKnown f13) (fun v14 w14 p14 => ?_)
 obtain ⟨rfl, c14⟩ := p14
 have zw14 := c14.size
 refine sx_guardT rfl rfl rfl ?_
 refine sp rfl (px_notP rfl) ?_
 refine sp rfl (px_pick rfl rfl) ?_
 refine av rfl rfl (wl_nil (q_n (k5 _ _ ?_)))
 refine sx_sub (Sub.c 1 rfl (.c 2 rfl (.c 3 rfl (.c 6 rfl (.c 7 rfl .nil))))) ?_
 refine sx_condP rfl (fun h110x2 => ?_) (fun h110x2 => ?_)
 ·
  refine sx_seq fun K15 k15 => sx_region ?_
  refine av rfl rfl (wl_nil (q_n (k15 _ _ ?_)))
  refine sx_retc ?_
  refine q_br (q_r (sx_ret1 Tryz.results34 rfl ?_))
  exact ⟨(by unfold how; first | grind | simp_all), (((cb2.t c8).t c11).t c14)⟩
 refine sx_seq fun K16 k16 => sx_region ?_
 refine mv rfl rfl (mv rfl rfl (sp rfl (px_eqS rfl rfl) ?_))
 refine av rfl rfl (wl_nil (q_n (k16 _ _ ?_)))
 refine sx_condP rfl (fun h112 => ?_) (fun h112 => ?_)
 ·
  refine sx_seq fun K17 k17 => sx_region ?_
  refine av rfl rfl (wl_nil (q_n (k17 _ _ ?_)))
  refine sx_retc ?_
  refine q_br (q_r (sx_ret1 Tryz.results34 rfl ?_))
  exact ⟨(by unfold how; first | grind | simp_all), (((cb2.t c8).t c11).t c14)⟩
 refine sx_seq fun K18 k18 => sx_region ?_
 have f21 := ((fb2.ext c8).ext c11).ext c14
 refine sp rfl (px_load rfl (f21.loadA (vs := [.string pv, vt]) (look_lit rfl) Tryz.isAgg35 Tryz.sizeOf35)) ?_
 refine mv rfl rfl (mv rfl rfl ?_)
 have f24 := ((f7.ext c8).ext c11).ext c14
 refine sx_call rfl rfl Tryz.call80 (c_simple f24 (by omega)) (fun v25 w25 p25 => ?_)
 obtain ⟨rfl, c25⟩ := p25
 have zw25 := c25.size
 refine sp rfl (px_ne rfl rfl) ?_
 refine av rfl rfl (wl_nil (q_n (k18 _ _ ?_)))
 refine sx_sub (Sub.c 1 rfl (.c 2 rfl (.c 3 rfl (.c 6 rfl (.c 25 rfl .nil))))) ?_
 refine sx_condP rfl (fun h114 => ?_) (fun h114 => ?_)
 ·
  refine sx_seq fun K26 k26 => sx_region ?_
  have f27 := f21.ext c25
  refine sp rfl (px_load rfl (f27.loadA (vs := [.string pv, vt]) (look_lit rfl) Tryz.isAgg35 Tryz.sizeOf35)) ?_
  refine mv rfl rfl (mv rfl rfl ?_)
  have f28 := f24.ext c25
  refine sx_call rfl rfl Tryz.call80 (c_simple f28 (by omega)) (fun v29 w29 p29 => ?_)
  obtain ⟨rfl, c29⟩ := p29
  have zw29 := c29.size
  refine av rfl rfl (wl_nil (q_n (k26 _ _ ?_)))
  refine sx_retc ?_
  refine q_br (q_r (sx_ret1 Tryz.results34 rfl ?_))
  exact ⟨(by unfold how; first | grind | simp_all), (((((cb2.t c8).t c11).t c14).t c25).t c29)⟩
 refine sx_seq fun K30 k30 => sx_region ?_
 refine mv rfl rfl (sp rfl (px_field rfl xfld35x0) ?_)
 have f31 := f21.ext c25
 refine sp rfl (px_load rfl (f31.load1 rfl Tryz.isAgg9)) ?_
 refine sp rfl (px_neS rfl rfl) ?_
 refine mv rfl rfl ?_
 refine sx_tmpP (t := 40) rfl (fun h116 => ?_) (fun h116 => ?_)
 ·
  refine sx_guardT rfl rfl rfl ?_
  refine mv rfl rfl ?_
  refine sx_guardT rfl rfl rfl ?_
  refine sp rfl (px_field rfl xfld35x0) ?_
  refine sx_guardT rfl rfl rfl ?_
  refine sp rfl (px_load rfl (f31.load1 rfl Tryz.isAgg9)) ?_
  refine sx_guardT rfl rfl rfl ?_
  refine sp rfl (px_neS rfl rfl) ?_
  refine sp rfl (px_pick rfl rfl) ?_
  refine mv rfl rfl ?_
  refine sx_tmpP (t := 46) rfl (fun h116x1 => ?_) (fun h116x1 => ?_)
  ·
   refine sx_guardT rfl rfl rfl ?_
   refine sp rfl (px_load rfl (f31.loadA (vs := [.string pv, vt]) (look_lit rfl) Tryz.isAgg35 Tryz.sizeOf35)) ?_
   refine sx_guardT rfl rfl rfl ?_
   refine mv rfl rfl ?_
   refine sx_guardT rfl rfl rfl ?_
   refine sp rfl (px_field rfl xfld35x0) ?_
   refine sx_guardT rfl rfl rfl ?_
   refine sp rfl (px_load rfl (f31.load1 rfl Tryz.isAgg9)) ?_
   refine sx_guardT rfl rfl rfl ?_
   have f32 := f24.ext c25
   refine sx_call rfl rfl Tryz.call80 (c_simple f32 (by omega)) (fun v33 w33 p33 => ?_)
   obtain ⟨rfl, c33⟩ := p33
   have zw33 := c33.size
   refine sx_guardT rfl rfl rfl ?_
   refine sp rfl (px_ne rfl rfl) ?_
   refine sp rfl (px_pick rfl rfl) ?_
   refine mv rfl rfl ?_
   refine sx_tmpP (t := 54) rfl (fun h116x2 => ?_) (fun h116x2 => ?_)
   ·
    refine sx_guardT rfl rfl rfl ?_
    have f34 := f31.ext c33
    refine sp rfl (px_load rfl (f34.loadA (vs := [.string pv, vt]) (look_lit rfl) Tryz.isAgg35 Tryz.sizeOf35)) ?_
    refine sx_guardT rfl rfl rfl ?_
    refine sp rfl (px_field rfl xfld35x0) ?_
    refine sx_guardT rfl rfl rfl ?_
    refine sp rfl (px_load rfl (f34.load1 rfl Tryz.isAgg9)) ?_
    refine sx_guardT rfl rfl rfl ?_
    refine mv rfl rfl ?_
    refine sx_guardT rfl rfl rfl ?_
    have f35 := f32.ext c33
    refine sx_call rfl rfl Tryz.call80 (c_simple f35 (by omega)) (fun v36 w36 p36 => ?_)
    obtain ⟨rfl, c36⟩ := p36
    have zw36 := c36.size
    refine sx_guardT rfl rfl rfl ?_
    refine sp rfl (px_ne rfl rfl) ?_
    refine sp rfl (px_pick rfl rfl) ?_
    refine av rfl rfl (wl_nil (q_n (k30 _ _ ?_)))
    refine sx_sub (Sub.c 6 rfl (.c 35 rfl .nil)) ?_
    refine sx_condP rfl (fun h116x3 => ?_) (fun h116x3 => ?_)
    ·
     refine sx_seq fun K37 k37 => sx_region ?_
     refine av rfl rfl (wl_nil (q_n (k37 _ _ ?_)))
     refine sx_retc ?_
     refine q_br (q_r (sx_ret1 Tryz.results34 rfl ?_))
     exact ⟨(by unfold how; first | grind | simp_all), ((((((cb2.t c8).t c11).t c14).t c25).t c33).t c36)⟩
    refine sx_skip ?_
    refine q_bn (q_n (k4 _ _ ?_))
    refine sx_seq fun K38 k38 => sx_region ?_
    refine av rfl rfl (wl_nil (q_n (k38 _ _ ?_)))
    refine sx_retc ?_
    refine sx_ret1 Tryz.results34 rfl ?_
    exact ⟨(by unfold how; first | grind | simp_all), ((((((cb2.t c8).t c11).t c14).t c25).t c33).t c36)⟩
   refine sx_guardF rfl rfl rfl rfl rfl rfl ?_
   refine sx_guardF rfl rfl rfl rfl rfl rfl ?_
   refine sx_guardF rfl rfl rfl rfl rfl rfl ?_
   refine sx_guardF rfl rfl rfl rfl rfl rfl ?_
   refine sx_guardF rfl rfl rfl rfl rfl rfl ?_
   refine sx_guardF rfl rfl rfl rfl rfl rfl ?_
   refine sp rfl (px_pick rfl rfl) ?_
   refine av rfl rfl (wl_nil (q_n (k30 _ _ ?_)))
   refine sx_sub (Sub.c 6 rfl (.c 35 rfl .nil)) ?_
   refine sx_condF rfl ?_
   refine sx_skip ?_
   refine q_bn (q_n (k4 _ _ ?_))
   refine sx_seq fun K39 k39 => sx_region ?_
   refine av rfl rfl (wl_nil (q_n (k39 _ _ ?_)))
   refine sx_retc ?_
   refine sx_ret1 Tryz.results34 rfl ?_
   exact ⟨(by unfold how; first | grind | simp_all), (((((cb2.t c8).t c11).t c14).t c25).t c33)⟩
  refine sx_guardF rfl rfl rfl rfl rfl rfl ?_
  refine sx_guardF rfl rfl rfl rfl rfl rfl ?_
  refine sx_guardF rfl rfl rfl rfl rfl rfl ?_
  refine sx_guardF rfl rfl rfl rfl rfl rfl ?_
  refine sx_guardF rfl rfl rfl rfl rfl rfl ?_
  refine sx_guardF rfl rfl rfl rfl rfl rfl ?_
  refine sp rfl (px_pick rfl rfl) ?_
  refine mv rfl rfl ?_
  refine sx_guardF rfl rfl rfl rfl rfl rfl ?_
  refine sx_guardF rfl rfl rfl rfl rfl rfl ?_
  refine sx_guardF rfl rfl rfl rfl rfl rfl ?_
  refine sx_guardF rfl rfl rfl rfl rfl rfl ?_
  refine sx_guardF rfl rfl rfl rfl rfl rfl ?_
  refine sx_guardF rfl rfl rfl rfl rfl rfl ?_
  refine sp rfl (px_pick rfl rfl) ?_
  refine av rfl rfl (wl_nil (q_n (k30 _ _ ?_)))
  refine sx_sub (Sub.c 6 rfl (.c 35 rfl .nil)) ?_
  refine sx_condF rfl ?_
  refine sx_skip ?_
  refine q_bn (q_n (k4 _ _ ?_))
  refine sx_seq fun K40 k40 => sx_region ?_
  refine av rfl rfl (wl_nil (q_n (k40 _ _ ?_)))
  refine sx_retc ?_
  refine sx_ret1 Tryz.results34 rfl ?_
  exact ⟨(by unfold how; first | grind | simp_all), ((((cb2.t c8).t c11).t c14).t c25)⟩
 refine sx_guardF rfl rfl rfl rfl rfl rfl ?_
 refine sx_guardF rfl rfl rfl rfl rfl rfl ?_
 refine sx_guardF rfl rfl rfl rfl rfl rfl ?_
 refine sx_guardF rfl rfl rfl rfl rfl rfl ?_
 refine sp rfl (px_pick rfl rfl) ?_
 refine mv rfl rfl ?_
 refine sx_guardF rfl rfl rfl rfl rfl rfl ?_
 refine sx_guardF rfl rfl rfl rfl rfl rfl ?_
 refine sx_guardF rfl rfl rfl rfl rfl rfl ?_
 refine sx_guardF rfl rfl rfl rfl rfl rfl ?_
 refine sx_guardF rfl rfl rfl rfl rfl rfl ?_
 refine sx_guardF rfl rfl rfl rfl rfl rfl ?_
 refine sp rfl (px_pick rfl rfl) ?_
 refine mv rfl rfl ?_
 refine sx_guardF rfl rfl rfl rfl rfl rfl ?_
 refine sx_guardF rfl rfl rfl rfl rfl rfl ?_
 refine sx_guardF rfl rfl rfl rfl rfl rfl ?_
 refine sx_guardF rfl rfl rfl rfl rfl rfl ?_
 refine sx_guardF rfl rfl rfl rfl rfl rfl ?_
 refine sx_guardF rfl rfl rfl rfl rfl rfl ?_
 refine sp rfl (px_pick rfl rfl) ?_
 refine av rfl rfl (wl_nil (q_n (k30 _ _ ?_)))
 refine sx_sub (Sub.c 6 rfl (.c 35 rfl .nil)) ?_
 refine sx_condF rfl ?_
 refine sx_skip ?_
 refine q_bn (q_n (k4 _ _ ?_))
 refine sx_seq fun K41 k41 => sx_region ?_
 refine av rfl rfl (wl_nil (q_n (k41 _ _ ?_)))
 refine sx_retc ?_
 refine sx_ret1 Tryz.results34 rfl ?_
 exact ⟨(by unfold how; first | grind | simp_all), ((((cb2.t c8).t c11).t c14).t c25)⟩

theorem c_natOf {w : World} {n : Int} (hn : 0 ≤ n ∧ n ≤ 18446744073709551615) :
  Ret Tryz.prog 82 [.int .u64 n] w fun v w' => ∃ s, v = s ∧ OwnI w' w.heap.size w'.heap.size s intT (dg (n).toNat) ∧ Chg 0 0 w w' := by
 have l0 := len_u64 (n := n) (by omega)
 refine sx_enter Tryz.func82 rfl Tryz.ntmps82 (nbl rfl) ?_
 refine sx_seq fun K1 k1 => sx_region ?_
 refine av rfl rfl (wl_nil (q_n (k1 _ _ ?_)))
 refine sx_seq fun K2 k2 => sx_region ?_
 refine sx_lit0 rfl xelt26 (fun s3 ws3 ss3 fs3 cs3 => ?_)
 have zws3 := cs3.size
 refine av rfl rfl (wl_nil (q_n (k2 _ _ ?_)))
 refine sx_seq fun K4 k4 => ?_
 refine sx_block ?_
 refine sx_loop (fun mm aa w' => ∃ (s : Value) (os : List Int) (m : Int), Agr 16 [(0, .int .u64 m), (3, s)] aa ∧ Chg w.heap.size ws3.heap.size ws3 w' ∧ Own w' w.heap.size w'.heap.size s intT os.length 1 (os.map (Value.int .i64)) ∧ (mm = m.toNat) ∧ (Lm os) ∧ (0 ≤ m ∧ m ≤ n) ∧ (vl os + Bs ^ os.length * m.toNat = n.toNat) ∧ (os.length + (dg m.toNat).length = (dg n.toNat).length) ∧ (os.length = 0 ∨ Bs ^ (os.length - 1) ≤ n.toNat)) (_) (fun a ha => ⟨s3, [], n, ha.sub (Sub.c 0 rfl (.c 3 rfl .nil)), Chg.refl _ _ _, (fs3.mono (by omega) (by omega)), rfl, Lm.nil, by omega, by simp [vl], by simp, .inl rfl⟩) ?_
 rintro mm aa wl5 ⟨s, os, m, hAwl5, cwl5, hs_s, hm, hlm, hb, hv, hln, hl⟩
 refine (show cw Tryz.prog 16 _ _ _ wl5 from ?_) aa hAwl5
 clear hAwl5
 have zwl5 := cwl5.size
 refine sx_seq fun K6 k6 => ?_
 refine sx_seq fun K7 k7 => sx_region ?_
 refine mv rfl rfl (sp rfl (px_gt rfl rfl) ?_)
 refine wl_nil (q_n (k7 _ _ ?_))
 refine sx_condP rfl (fun h47 => ?_) (fun h47 => ?_)
 ·
  refine sx_skip ?_
  refine q_n (k6 _ _ ?_)
  refine sx_block ?_
  refine sx_seq fun K8 k8 => sx_region ?_
  refine mv rfl rfl (mv rfl rfl (sp rfl (px_remU rfl rfl (by omega) (by omega)) ?_))
  refine sp rfl (px_convI Tryz.underlying105 Tryz.underlying3 rfl (by omega)) ?_
  refine sx_lit1 rfl xelt26 rfl rfl (fun s9 ws9 ss9 fs9 cs9 => ?_)
  have ns9 := Own.norm (f := (Value.int .i64)) (zs := [m % 1000000000]) fs9
  have zws9 := cs9.size
  have f11 := hs_s.ext cs9
  refine sx_append rfl xelt26 rfl rfl f11 ns9.sv one_int (by omega) (by simp only [List.length_cons, List.length_nil]; omega) (by unfold maxLen; simp only [List.length_cons, List.length_nil]; omega) (fun a10 w10 fw10 cw10 => ?_)
  have nw10 := Own.app (f := (Value.int .i64)) (a := os) (b := [m % 1000000000]) fw10
  have zw10 := cw10.size
  refine av rfl rfl (wl_nil (q_n (k8 _ _ ?_)))
  refine sx_region ?_
  refine mv rfl rfl (sp rfl (px_quoU rfl rfl (by omega) (by omega) (by omega)) ?_)
  refine av rfl rfl (wl_nil ?_)
  have q12 := Chg.step (l := w.heap.size) (h := ws3.heap.size) cwl5 cs9 (by omega)
  have q13 := Chg.step (l := w.heap.size) (h := ws3.heap.size) q12 cw10 (by omega)
  have hmd := mod_bd (s := m) (by omega)
  have hm0 : m / 1000000000 < m := by omega
  exact q_bn (fun a ha => ⟨_, by omega, a10, (os ++ ([m % 1000000000])), (m / 1000000000), ha.sub (Sub.c 0 rfl (.c 3 rfl .nil)), q13, (nw10.mono (by omega) (by omega)), rfl, hlm.append (Lm.single hmd.1 hmd.2), by omega, of_stepI (by omega) hv, by have h9 := of_ln (m := m) (by omega); simp only [List.length_append, List.length_singleton]; omega, .inr (of_len (by omega) hv)⟩)
 refine sx_exit ?_
 refine q_e (q_e (q_bx (q_n (k4 _ _ ?_))))
 refine sx_seq fun K14 k14 => sx_region ?_
 refine mv rfl rfl (av rfl rfl (wl_nil (q_n (k14 _ _ ?_))))
 refine sx_retc ?_
 refine sx_ret1 Tryz.results82 rfl ?_
 have hm0 : m = 0 := by omega
 subst hm0
 have hd : os = dg n.toNat := dg_of hlm (by simpa using hv) hl
 subst hd
 have q15 := Chg.step (l := 0) (h := 0) (Chg.zero (l := 0) (h := 0) cs3) cwl5 (by omega)
 exact ⟨_, rfl, (Own.mono hs_s (by omega) (by omega)), q15⟩

theorem c_iIntOf {w : World} {n : Int} (hn : -9223372036854775808 ≤ n ∧ n ≤ 9223372036854775807) :
  Ret Tryz.prog 36 [.int .i64 n] w fun v w' => ∃ s, v = .agg #[.bool (ng n), s] ∧ OwnI w' w.heap.size w'.heap.size s intT (dg (n).natAbs) ∧ Chg 0 0 w w' := by
 refine sx_enter Tryz.func36 rfl Tryz.ntmps36 (nbl rfl) ?_
 refine sx_seq fun K1 k1 => sx_region ?_
 refine sx_alloc [.bool false, (.slice none 0 0)] rfl Tryz.zeroValue28 rfl (fun b2 w3 eb2 sb2 fb2 cb2 => ?_)
 have zw3 := cb2.size
 refine wl_nil (q_n (k1 _ _ ?_))
 refine sx_seq fun K4 k4 => ?_
 refine sx_seq fun K5 k5 => sx_region ?_
 refine mv rfl rfl (sp rfl (px_lt rfl rfl) ?_)
 refine wl_nil (q_n (k5 _ _ ?_))
 refine sx_condP rfl (fun h23 => ?_) (fun h23 => ?_)
 ·
  refine sx_seq fun K6 k6 => sx_region ?_
  refine mv rfl rfl (sp rfl (px_convUn Tryz.underlying3 Tryz.underlying105 rfl (by omega)) ?_)
  refine sp rfl (px_negU rfl (by omega)) ?_
  refine sx_call rfl rfl Tryz.call82 (c_natOf (by omega)) (fun v7 w7 p7 => ?_)
  obtain ⟨s7, rfl, os_7, c7⟩ := p7
  have zw7 := c7.size
  refine sp rfl (px_build rfl (xbld28x0x1 rfl os_7.one _)) ?_
  have f9 := fb2.ext c7
  refine sx_store (vs := [.bool true, v7]) rfl rfl f9 rfl Tryz.sizeOf28 (nbl rfl) (one_cons rfl (one_cons os_7.one one_nil)) (fun w8 sw8 fw8 cw8 => ?_)
  have zw8 := cw8.size
  have gw8 : Blk w8 b2 [.bool true, v7] 28 := fw8
  refine wl_nil (q_n (k6 _ _ ?_))
  refine sx_retc ?_
  refine q_r (sx_ret1 Tryz.results36 ⟨_, rfl, gw8.loadA (vs := [.bool true, v7]) (look_lit rfl) Tryz.isAgg28 Tryz.sizeOf28⟩ ?_)
  have e1 : (18446744073709551616 - (n + 18446744073709551616)).toNat = n.natAbs := by omega
  have e2 : ng n = true := ng_true.2 (by omega)
  rw [e2, ← e1]
  have q10 := Chg.step (l := 0) (h := 0) (Chg.zero (l := 0) (h := 0) (cb2.t c7)) cw8 (by omega)
  have f11 := os_7.chg cw8 (by omega)
  exact ⟨_, rfl, (Own.mono f11 (by omega) (by omega)), q10⟩
 refine sx_skip ?_
 refine q_n (k4 _ _ ?_)
 refine sx_seq fun K12 k12 => sx_region ?_
 refine mv rfl rfl (sp rfl (px_convU Tryz.underlying3 Tryz.underlying105 rfl (by omega)) ?_)
 refine sx_call rfl rfl Tryz.call82 (c_natOf (by omega)) (fun v13 w13 p13 => ?_)
 obtain ⟨s13, rfl, os_13, c13⟩ := p13
 have zw13 := c13.size
 refine sp rfl (px_build rfl (xbld28x0x1 rfl os_13.one _)) ?_
 have f15 := fb2.ext c13
 refine sx_store (vs := [.bool false, v13]) rfl rfl f15 rfl Tryz.sizeOf28 (nbl rfl) (one_cons rfl (one_cons os_13.one one_nil)) (fun w14 sw14 fw14 cw14 => ?_)
 have zw14 := cw14.size
 have gw14 : Blk w14 b2 [.bool false, v13] 28 := fw14
 refine wl_nil (q_n (k12 _ _ ?_))
 refine sx_retc ?_
 refine sx_ret1 Tryz.results36 ⟨_, rfl, gw14.loadA (vs := [.bool false, v13]) (look_lit rfl) Tryz.isAgg28 Tryz.sizeOf28⟩ ?_
 have e1 : n.toNat = n.natAbs := by omega
 have e2 : ng n = false := ng_false.2 (by omega)
 rw [e2, ← e1]
 have q16 := Chg.step (l := 0) (h := 0) (Chg.zero (l := 0) (h := 0) (cb2.t c13)) cw14 (by omega)
 have f17 := os_13.chg cw14 (by omega)
 exact ⟨_, rfl, (Own.mono f17 (by omega) (by omega)), q16⟩

theorem c_intsOk {w : World} {n1 : Bool} {v1 : Value} {lv1 uv1 : Nat} {z1 : List Int} {n2 : Bool} {v2 : Value} {lv2 uv2 : Nat} {z2 : List Int} (hv1 : Sl w lv1 uv1 v1 (z1)) (hv2 : Sl w lv2 uv2 v2 (z2)) (h63 : z1.length ≤ 4611686018427387904 ∧ z2.length ≤ 4611686018427387904) :
  Ret Tryz.prog 118 [.agg #[.bool n1, v1], .agg #[.bool n2, v2]] w fun v w' => v = .bool (decide (IOk n1 z1 ∧ IOk n2 z2)) ∧ Chg 0 0 w w' := by
 have hv10 := hv1.fit
 have hv20 := hv2.fit
 refine sx_enter Tryz.func118 rfl Tryz.ntmps118 (nbl rfl) ?_
 refine sx_seq fun K1 k1 => sx_region ?_
 refine sx_box [.bool n1, v1] rfl rfl rfl (fun b2 w3 eb2 sb2 fb2 cb2 => ?_)
 have zw3 := cb2.size
 refine sx_box [.bool n2, v2] rfl rfl rfl (fun b4 w5 eb4 sb4 fb4 cb4 => ?_)
 have zw5 := cb4.size
 refine av rfl rfl (wl_nil (q_n (k1 _ _ ?_)))
 refine sx_seq fun K6 k6 => sx_region ?_
 have f7 := fb2.ext cb4
 refine sp rfl (px_load rfl (f7.loadA (vs := [.bool n1, v1]) (look_lit rfl) Tryz.isAgg28 Tryz.sizeOf28)) ?_
 have f8 := hv10.ext cb2
 have f9 := f8.ext cb4
 refine sx_call rfl rfl Tryz.call97 (c_iIntOk f9 (by omega)) (fun v10 w10 p10 => ?_)
 obtain ⟨rfl, c10⟩ := p10
 have zw10 := c10.size
 refine mv rfl rfl ?_
 refine sx_tmpP (t := 7) rfl (fun h13 => ?_) (fun h13 => ?_)
 ·
  refine sx_guardT rfl rfl rfl ?_
  have f11 := fb4.ext c10
  refine sp rfl (px_load rfl (f11.loadA (vs := [.bool n2, v2]) (look_lit rfl) Tryz.isAgg28 Tryz.sizeOf28)) ?_
  refine sx_guardT rfl rfl rfl ?_
  have f12 := hv20.ext cb2
  have f13 := f12.ext cb4
  have f14 := f13.ext c10
  refine sx_call rfl rfl Tryz.call97 (c_iIntOk f14 (by omega)) (fun v15 w15 p15 => ?_)
  obtain ⟨rfl, c15⟩ := p15
  have zw15 := c15.size
  refine sp rfl (px_pick rfl rfl) ?_
  refine av rfl rfl (wl_nil (q_n (k6 _ _ ?_)))
  refine sx_retc ?_
  refine sx_ret1 Tryz.results118 rfl ?_
  exact ⟨(by first | exact bTrue (by grind) | exact bFalse (by grind) | exact bIff (by grind)), (((cb2.t cb4).t c10).t c15)⟩
 refine sx_guardF rfl rfl rfl rfl rfl rfl ?_
 refine sx_guardF rfl rfl rfl rfl rfl rfl ?_
 refine sp rfl (px_pick rfl rfl) ?_
 refine av rfl rfl (wl_nil (q_n (k6 _ _ ?_)))
 refine sx_retc ?_
 refine sx_ret1 Tryz.results118 rfl ?_
 exact ⟨(by first | exact bTrue (by grind) | exact bFalse (by grind) | exact bIff (by grind)), ((cb2.t cb4).t c10)⟩

theorem c_signed {w : World} {n : Bool} {va : Value} {lva uva : Nat} {zs : List Int} (hva : Sl w lva uva va (zs)) (h63 : zs.length ≤ 4611686018427387904) :
  Ret Tryz.prog 55 [.bool n, va] w fun v w' => v = .agg #[.bool (nz n zs), va] ∧ Chg 0 0 w w' := by
 have hva0 := hva.fit
 refine sx_enter Tryz.func55 rfl Tryz.ntmps55 (nbl rfl) ?_
 refine sx_seq fun K1 k1 => sx_region ?_
 refine sx_alloc [.bool false, (.slice none 0 0)] rfl Tryz.zeroValue28 rfl (fun b2 w3 eb2 sb2 fb2 cb2 => ?_)
 have zw3 := cb2.size
 refine wl_nil (q_n (k1 _ _ ?_))
 refine sx_seq fun K4 k4 => sx_region ?_
 refine mv rfl rfl (mv rfl rfl ?_)
 refine sx_tmpB (t := 6) rfl (fun h16 => ?_) (fun h16 => ?_)
 ·
  refine sx_guardT rfl rfl rfl ?_
  refine mv rfl rfl ?_
  refine sx_guardT rfl rfl rfl ?_
  have f5 := hva0.ext cb2
  refine sp rfl (px_len rfl Tryz.underlying26 f5) ?_
  refine sx_guardT rfl rfl rfl ?_
  refine sp rfl (px_gt rfl rfl) ?_
  refine sp rfl (px_pick rfl rfl) ?_
  refine mv rfl rfl (sp rfl (px_build rfl (xbld28x0x1 rfl f5.one _)) ?_)
  refine sx_store (vs := [.bool (decide ((0 : Int) < ↑((zs).length))), va]) rfl rfl fb2 rfl Tryz.sizeOf28 (nbl rfl) (one_cons rfl (one_cons f5.one one_nil)) (fun w6 sw6 fw6 cw6 => ?_)
  have zw6 := cw6.size
  have gw6 : Blk w6 b2 [.bool (decide ((0 : Int) < ↑((zs).length))), va] 28 := fw6
  refine wl_nil (q_n (k4 _ _ ?_))
  refine sx_retc ?_
  refine sx_ret1 Tryz.results55 ⟨_, rfl, gw6.loadA (vs := [.bool (decide ((0 : Int) < ↑((zs).length))), va]) (look_lit rfl) Tryz.isAgg28 Tryz.sizeOf28⟩ ?_
  have q7 := Chg.step (l := 0) (h := 0) (Chg.zero (l := 0) (h := 0) cb2) cw6 (by omega)
  exact ⟨(by simp [nz, h16]), q7⟩
 refine sx_guardF rfl rfl rfl rfl rfl rfl ?_
 refine sx_guardF rfl rfl rfl rfl rfl rfl ?_
 refine sx_guardF rfl rfl rfl rfl rfl rfl ?_
 refine sp rfl (px_pick rfl rfl) ?_
 refine mv rfl rfl ?_
 have f8 := hva0.ext cb2
 refine sp rfl (px_build rfl (xbld28x0x1 rfl f8.one _)) ?_
 refine sx_store (vs := [.bool false, va]) rfl rfl fb2 rfl Tryz.sizeOf28 (nbl rfl) (one_cons rfl (one_cons f8.one one_nil)) (fun w9 sw9 fw9 cw9 => ?_)
 have zw9 := cw9.size
 have gw9 : Blk w9 b2 [.bool false, va] 28 := fw9
 refine wl_nil (q_n (k4 _ _ ?_))
 refine sx_retc ?_
 refine sx_ret1 Tryz.results55 ⟨_, rfl, gw9.loadA (vs := [.bool false, va]) (look_lit rfl) Tryz.isAgg28 Tryz.sizeOf28⟩ ?_
 have q10 := Chg.step (l := 0) (h := 0) (Chg.zero (l := 0) (h := 0) cb2) cw9 (by omega)
 exact ⟨(by simp [nz, h16]), q10⟩

theorem c_natCmp {w : World} {va : Value} {lva uva : Nat} {zs : List Int} {vb : Value} {lvb uvb : Nat} {ys : List Int} (hva : Sl w lva uva va (zs)) (hvb : Sl w lvb uvb vb (ys)) (h63 : zs.length ≤ 4611686018427387904 ∧ ys.length ≤ 4611686018427387904) :
  Ret Tryz.prog 102 [va, vb] w fun v w' => v = .int .i64 (cmpL zs ys) ∧ Chg 0 0 w w' := by
 have hva0 := hva.fit
 have hvb0 := hvb.fit
 have zs0 : zs.drop zs.length = [] := by simp
 have ys0 : ys.drop ys.length = [] := by simp
 refine sx_enter Tryz.func102 rfl Tryz.ntmps102 (nbl rfl) ?_
 refine sx_seq fun K1 k1 => sx_region ?_
 refine av rfl rfl (wl_nil (q_n (k1 _ _ ?_)))
 refine sx_seq fun K2 k2 => ?_
 refine sx_seq fun K3 k3 => sx_region ?_
 refine mv rfl rfl (sp rfl (px_len rfl Tryz.underlying26 hva0) ?_)
 refine mv rfl rfl (sp rfl (px_len rfl Tryz.underlying26 hvb0) ?_)
 refine sp rfl (px_ne rfl rfl) ?_
 refine wl_nil (q_n (k3 _ _ ?_))
 refine sx_condP rfl (fun h76 => ?_) (fun h76 => ?_)
 ·
  refine sx_seq fun K4 k4 => ?_
  refine sx_seq fun K5 k5 => sx_region ?_
  refine mv rfl rfl (sp rfl (px_len rfl Tryz.underlying26 hva0) ?_)
  refine mv rfl rfl (sp rfl (px_len rfl Tryz.underlying26 hvb0) ?_)
  refine sp rfl (px_lt rfl rfl) ?_
  refine wl_nil (q_n (k5 _ _ ?_))
  refine sx_condP rfl (fun h77 => ?_) (fun h77 => ?_)
  ·
   refine sx_seq fun K6 k6 => sx_region ?_
   refine av rfl rfl (wl_nil (q_n (k6 _ _ ?_)))
   refine sx_retc ?_
   refine q_r (q_r (sx_ret1 Tryz.results102 rfl ?_))
   exact ⟨iEq (cmpL_short (by omega)).symm, (Chg.refl 0 0 _)⟩
  refine sx_skip ?_
  refine q_n (k4 _ _ ?_)
  refine sx_seq fun K7 k7 => sx_region ?_
  refine av rfl rfl (wl_nil (q_n (k7 _ _ ?_)))
  refine sx_retc ?_
  refine q_r (sx_ret1 Tryz.results102 rfl ?_)
  exact ⟨iEq (cmpL_long (by omega)).symm, (Chg.refl 0 0 _)⟩
 refine sx_skip ?_
 refine q_n (k2 _ _ ?_)
 refine sx_seq fun K8 k8 => ?_
 refine sx_seq fun K9 k9 => sx_region ?_
 refine mv rfl rfl (sp rfl (px_len rfl Tryz.underlying26 hva0) ?_)
 refine sp rfl (px_sub rfl rfl (by omega)) ?_
 refine av rfl rfl (wl_nil (q_n (k9 _ _ ?_)))
 refine sx_block ?_
 have e00 : zs.length = ys.length := by omega
 have he0 : zs.drop zs.length = ys.drop zs.length := by rw [zs0, e00, ys0]
 refine sx_loop (fun mm aa w' => ∃ (k : Nat), Agr 41 [(0, va), (1, vb), (5, .int .i64 (↑k - 1))] aa ∧ Chg 0 0 w w' ∧ (mm = k) ∧ (k ≤ zs.length) ∧ (zs.drop k = ys.drop k)) (_) (fun a ha => ⟨zs.length, ha.sub (Sub.c 0 rfl (.c 1 rfl (.c 5 (look_int (t := 5) rfl (by first | omega | simp)) .nil))), Chg.refl _ _ _, rfl, by omega, he0⟩) ?_
 rintro mm aa wl10 ⟨k, hAwl10, cwl10, hm, hk, he⟩
 refine (show cw Tryz.prog 41 _ _ _ wl10 from ?_) aa hAwl10
 clear hAwl10
 have zwl10 := cwl10.size
 have hl : zs.length = ys.length := by omega
 refine sx_seq fun K11 k11 => ?_
 refine sx_seq fun K12 k12 => sx_region ?_
 refine mv rfl rfl (sp rfl (px_ge rfl rfl) ?_)
 refine wl_nil (q_n (k12 _ _ ?_))
 refine sx_condP rfl (fun h82 => ?_) (fun h82 => ?_)
 ·
  refine sx_skip ?_
  refine q_n (k11 _ _ ?_)
  refine sx_seq fun K13 k13 => ?_
  refine sx_block ?_
  refine sx_seq fun K14 k14 => ?_
  have f15 := hva0.ext cwl10
  have f16 := hvb0.ext cwl10
  refine dx_region (fun w' => Chg 0 0 wl10 w') (by kernel_rfl) (Chg.zero (Chg.drew _)) ?_
  have d17 := Chg.drew wl10
  have s17 : Chg 0 0 wl10 (World.drew wl10) := Chg.zero (Chg.drew _)
  have y17 : (World.drew wl10).heap.size = wl10.heap.size := rfl
  generalize World.drew wl10 = w17 at *
  have zw17 := d17.size
  refine dt 0 rfl rfl rfl rfl s17 (fun _ hS => px_move rfl) ?_
  refine dt 1 rfl rfl rfl rfl s17 (fun _ hS => px_move rfl) ?_
  refine dt 2 rfl rfl rfl rfl s17 (fun _ hS => px_index1 (j := (k - 1)) rfl rfl (by omega) Tryz.underlying26 Tryz.sizeOf3 ((f15).chg hS (by omega)) (by omega)) ?_
  refine dt 3 rfl rfl rfl rfl s17 (fun _ hS => px_load rfl (((f15).chg hS (by omega)).load1 (at_int (by omega)) Tryz.isAgg3)) ?_
  refine dt 4 rfl rfl rfl rfl s17 (fun _ hS => px_move rfl) ?_
  refine dt 5 rfl rfl rfl rfl s17 (fun _ hS => px_move rfl) ?_
  refine dt 6 rfl rfl rfl rfl s17 (fun _ hS => px_index1 (j := (k - 1)) rfl rfl (by omega) Tryz.underlying26 Tryz.sizeOf3 ((f16).chg hS (by omega)) (by omega)) ?_
  refine dt 7 rfl rfl rfl rfl s17 (fun _ hS => px_load rfl (((f16).chg hS (by omega)).load1 (at_int (by omega)) Tryz.isAgg3)) ?_
  refine dt 8 rfl rfl rfl rfl s17 (fun _ hS => px_ne rfl rfl) ?_
  refine dx_done (by kernel_rfl) ?_
  refine q_n (k14 _ _ ?_)
  refine sx_condP rfl (fun h83 => ?_) (fun h83 => ?_)
  ·
   refine sx_seq fun K18 k18 => ?_
   refine sx_seq fun K19 k19 => ?_
   have f20 := f15.ext d17
   have f21 := f16.ext d17
   refine dx_region (fun w' => Chg 0 0 w17 w') (by kernel_rfl) (Chg.zero (Chg.drew _)) ?_
   have d22 := Chg.drew w17
   have s22 : Chg 0 0 w17 (World.drew w17) := Chg.zero (Chg.drew _)
   have y22 : (World.drew w17).heap.size = w17.heap.size := rfl
   generalize World.drew w17 = w22 at *
   have zw22 := d22.size
   refine dt 0 rfl rfl rfl rfl s22 (fun _ hS => px_move rfl) ?_
   refine dt 1 rfl rfl rfl rfl s22 (fun _ hS => px_move rfl) ?_
   refine dt 2 rfl rfl rfl rfl s22 (fun _ hS => px_index1 (j := (k - 1)) rfl rfl (by omega) Tryz.underlying26 Tryz.sizeOf3 ((f20).chg hS (by omega)) (by omega)) ?_
   refine dt 3 rfl rfl rfl rfl s22 (fun _ hS => px_load rfl (((f20).chg hS (by omega)).load1 (at_int (by omega)) Tryz.isAgg3)) ?_
   refine dt 4 rfl rfl rfl rfl s22 (fun _ hS => px_move rfl) ?_
   refine dt 5 rfl rfl rfl rfl s22 (fun _ hS => px_move rfl) ?_
   refine dt 6 rfl rfl rfl rfl s22 (fun _ hS => px_index1 (j := (k - 1)) rfl rfl (by omega) Tryz.underlying26 Tryz.sizeOf3 ((f21).chg hS (by omega)) (by omega)) ?_
   refine dt 7 rfl rfl rfl rfl s22 (fun _ hS => px_load rfl (((f21).chg hS (by omega)).load1 (at_int (by omega)) Tryz.isAgg3)) ?_
   refine dt 8 rfl rfl rfl rfl s22 (fun _ hS => px_lt rfl rfl) ?_
   refine dx_done (by kernel_rfl) ?_
   refine q_n (k19 _ _ ?_)
   refine sx_sub (Sub.c 0 rfl (.c 1 rfl (.c 5 rfl (.c 40 rfl .nil)))) ?_
   refine sx_condP rfl (fun h84 => ?_) (fun h84 => ?_)
   ·
    refine sx_seq fun K23 k23 => sx_region ?_
    refine av rfl rfl (wl_nil (q_n (k23 _ _ ?_)))
    refine sx_retc ?_
    refine q_r (q_br (q_r (q_r (q_br (q_r (sx_ret1 Tryz.results102 rfl ?_))))))
    have hlt := cmpL_lt hl (k := k - 1) (by omega) (by rw [Nat.sub_add_cancel (by omega)]; exact he) (h84)
    exact ⟨iEq hlt.symm, ((cwl10.t d17).t d22)⟩
   refine sx_skip ?_
   refine q_n (k18 _ _ ?_)
   refine sx_seq fun K24 k24 => sx_region ?_
   refine av rfl rfl (wl_nil (q_n (k24 _ _ ?_)))
   refine sx_retc ?_
   refine q_br (q_r (q_r (q_br (q_r (sx_ret1 Tryz.results102 rfl ?_)))))
   have hlt := cmpL_gt hl (k := k - 1) (by omega) (by rw [Nat.sub_add_cancel (by omega)]; exact he) (by omega)
   exact ⟨iEq hlt.symm, ((cwl10.t d17).t d22)⟩
  refine sx_skip ?_
  refine q_bn (q_n (k13 _ _ ?_))
  refine sx_region ?_
  refine mv rfl rfl (sp rfl (px_sub rfl rfl (by omega)) ?_)
  refine av rfl rfl (wl_nil ?_)
  exact fun a ha => ⟨_, by omega, (k - 1), ha.sub (Sub.c 0 rfl (.c 1 rfl (.c 5 (look_int (t := 5) rfl (by first | omega | simp)) .nil))), (cwl10.t d17), rfl, by omega, drop_succ_eq (by omega) (by omega) (by rw [Nat.sub_add_cancel (by omega)]; exact he) (by omega)⟩
 refine sx_exit ?_
 refine q_e (q_e (q_bx (q_n (k8 _ _ ?_))))
 refine sx_seq fun K25 k25 => sx_region ?_
 refine av rfl rfl (wl_nil (q_n (k25 _ _ ?_)))
 refine sx_retc ?_
 refine sx_ret1 Tryz.results102 rfl ?_
 have e1 : k = 0 := by omega
 subst e1
 have e2 : zs = ys := by simpa using he
 subst e2
 exact ⟨iEq (cmpL_self zs).symm, cwl10⟩

theorem c_natCopy {w : World} {va : Value} {lva uva : Nat} {zs : List Int} (hva : Sl w lva uva va (zs)) (h63 : zs.length ≤ 1048576) :
  Ret Tryz.prog 123 [va] w fun v w' => ∃ s, v = s ∧ OwnI w' w.heap.size w'.heap.size s intT (zs) ∧ Chg 0 0 w w' := by
 have hva0 := hva.fit
 refine sx_enter Tryz.func123 rfl Tryz.ntmps123 (nbl rfl) ?_
 refine sx_seq fun K1 k1 => sx_region ?_
 refine av rfl rfl (wl_nil (q_n (k1 _ _ ?_)))
 refine sx_seq fun K2 k2 => sx_region ?_
 refine sx_lit0 rfl xelt26 (fun s3 ws3 ss3 fs3 cs3 => ?_)
 have zws3 := cs3.size
 refine mv rfl rfl ?_
 have f5 := hva0.ext cs3
 refine sx_append rfl xelt26 rfl rfl fs3 f5 one_int (by omega) (by omega) (by unfold maxLen; omega) (fun a4 w4 fw4 cw4 => ?_)
 have nw4 := Own.norm (f := (Value.int .i64)) (zs := zs) fw4
 have zw4 := cw4.size
 refine av rfl rfl (wl_nil (q_n (k2 _ _ ?_)))
 refine sx_retc ?_
 refine sx_ret1 Tryz.results123 rfl ?_
 have q6 := Chg.step (l := 0) (h := 0) (Chg.zero (l := 0) (h := 0) cs3) cw4 (by omega)
 exact ⟨_, rfl, Own.mono nw4 (by omega) (by omega), q6⟩

theorem c_trim {w : World} {va : Value} {lva uva : Nat} {zs : List Int} (hva : OwnI w lva uva va intT (zs)) (hz : Lm zs) (h63 : zs.length ≤ 1000000) :
  Ret Tryz.prog 90 [va] w fun v w' => ∃ s, v = s ∧ OwnI w' (lva) (uva) s intT (dg (vl zs)) ∧ Chg 0 0 w w' := by
 refine sx_enter Tryz.func90 rfl Tryz.ntmps90 (nbl rfl) ?_
 refine sx_seq fun K1 k1 => sx_region ?_
 refine av rfl rfl (wl_nil (q_n (k1 _ _ ?_)))
 refine sx_seq fun K2 k2 => ?_
 refine sx_block ?_
 refine sx_loop (fun mm aa w' => ∃ (k : Nat) (s : Value), Agr 21 [(0, s)] aa ∧ Chg 0 0 w w' ∧ Own w' lva uva s intT ((zs.take k).length) 1 ((zs.take k).map (Value.int .i64)) ∧ (mm = k) ∧ (k ≤ zs.length) ∧ (vl (zs.take k) = vl zs)) (_) (fun a ha => ⟨zs.length, va, ha.sub (Sub.c 0 rfl .nil), Chg.refl _ _ _, (by rw [List.take_length]; exact hva), rfl, by omega, vl_take_all zs⟩) ?_
 rintro mm aa wl3 ⟨k, s, hAwl3, cwl3, hs_s, hm, hk, hv⟩
 refine (show cw Tryz.prog 21 _ _ _ wl3 from ?_) aa hAwl3
 clear hAwl3
 have zwl3 := cwl3.size
 have hlt : (zs.take k).length = k := by rw [List.length_take]; omega
 refine sx_seq fun K4 k4 => ?_
 refine sx_seq fun K5 k5 => sx_region ?_
 refine mv rfl rfl (sp rfl (px_len rfl Tryz.underlying26 hs_s.sv) ?_)
 refine sp rfl (px_gt rfl rfl) ?_
 refine mv rfl rfl ?_
 refine sx_tmpP (t := 6) rfl (fun h29 => ?_) (fun h29 => ?_)
 ·
  refine sx_guardT rfl rfl rfl ?_
  refine mv rfl rfl ?_
  refine sx_guardT rfl rfl rfl ?_
  refine mv rfl rfl ?_
  refine sx_guardT rfl rfl rfl ?_
  refine sp rfl (px_len rfl Tryz.underlying26 hs_s.sv) ?_
  refine sx_guardT rfl rfl rfl ?_
  refine sp rfl (px_sub rfl rfl (by omega)) ?_
  refine sx_guardT rfl rfl rfl ?_
  refine sp rfl (px_index1 (j := (k - 1)) rfl rfl (by omega) Tryz.underlying26 Tryz.sizeOf3 hs_s.sv (by omega)) ?_
  refine sx_guardT rfl rfl rfl ?_
  refine sp rfl (px_load rfl (hs_s.sv.load1 (at_int (by omega)) Tryz.isAgg3)) ?_
  refine sx_guardT rfl rfl rfl ?_
  refine sp rfl (px_eq rfl rfl) ?_
  refine sp rfl (px_pick rfl rfl) ?_
  refine wl_nil (q_n (k5 _ _ ?_))
  refine sx_condP rfl (fun h29x1 => ?_) (fun h29x1 => ?_)
  ·
   refine sx_skip ?_
   refine q_n (k4 _ _ ?_)
   refine sx_block ?_
   refine sx_region ?_
   refine mv rfl rfl (mv rfl rfl (sp rfl (px_len rfl Tryz.underlying26 hs_s.sv) ?_))
   refine sp rfl (px_sub rfl rfl (by omega)) ?_
   refine sp rfl (px_sliceTo (h := (k - 1)) rfl rfl (by omega) Tryz.underlying26 Tryz.sizeOf3 hs_s.sv (by omega)) ?_
   refine av rfl rfl (wl_nil ?_)
   exact q_bn (fun a ha => ⟨_, by omega, (k - 1), (vtake s (k - 1)), ha.sub (Sub.c 0 rfl .nil), cwl3, (by have hh := (Own.takeI hs_s (h := (k - 1)) (by omega)); rwa [List.take_take, Nat.min_eq_left (by omega)] at hh), rfl, by omega, trim_step (by omega) hk h29x1 hv⟩)
  refine sx_exit ?_
  refine q_e (q_e (q_bx (q_n (k2 _ _ ?_))))
  refine sx_seq fun K6 k6 => sx_region ?_
  refine mv rfl rfl (av rfl rfl (wl_nil (q_n (k6 _ _ ?_))))
  refine sx_sub (Sub.c 2 rfl .nil) ?_
  refine sx_retc ?_
  refine sx_ret1 Tryz.results90 rfl ?_
  have hd := trim_done hz hk hv (by first | exact .inl (by omega) | exact .inr (by assumption))
  rw [← hd]
  exact ⟨_, rfl, hs_s, cwl3⟩
 refine sx_guardF rfl rfl rfl rfl rfl rfl ?_
 refine sx_guardF rfl rfl rfl rfl rfl rfl ?_
 refine sx_guardF rfl rfl rfl rfl rfl rfl ?_
 refine sx_guardF rfl rfl rfl rfl rfl rfl ?_
 refine sx_guardF rfl rfl rfl rfl rfl rfl ?_
 refine sx_guardF rfl rfl rfl rfl rfl rfl ?_
 refine sx_guardF rfl rfl rfl rfl rfl rfl ?_
 refine sp rfl (px_pick rfl rfl) ?_
 refine wl_nil (q_n (k5 _ _ ?_))
 refine sx_condF rfl ?_
 refine sx_exit ?_
 refine q_e (q_e (q_bx (q_n (k2 _ _ ?_))))
 refine sx_seq fun K7 k7 => sx_region ?_
 refine mv rfl rfl (av rfl rfl (wl_nil (q_n (k7 _ _ ?_))))
 refine sx_sub (Sub.c 2 rfl .nil) ?_
 refine sx_retc ?_
 refine sx_ret1 Tryz.results90 rfl ?_
 have hd := trim_done hz hk hv (by first | exact .inl (by omega) | exact .inr (by assumption))
 rw [← hd]
 exact ⟨_, rfl, hs_s, cwl3⟩

theorem c_natSmall {w : World} {va : Value} {lva uva : Nat} {m : Nat} {d : Int} (hva : Sl w lva uva va (dg m)) (hbm : (dg m).length ≤ 1000) (hd : 1 ≤ d ∧ d ≤ 999999999) :
  Ret Tryz.prog 124 [va, .int .i64 d] w fun v w' => ∃ s, v = .tuple #[s, .int .i64 (((m % (d).toNat : Nat) : Int))] ∧ OwnI w' w.heap.size w'.heap.size s intT (dg (m / (d).toNat)) ∧ Chg 0 0 w w' := by
 have hva0 := hva.fit
 refine sx_enter Tryz.func124 rfl Tryz.ntmps124 (nbl rfl) ?_
 refine sx_seq fun K1 k1 => sx_region ?_
 refine av rfl rfl (av rfl rfl (wl_nil (q_n (k1 _ _ ?_))))
 refine sx_seq fun K2 k2 => sx_region ?_
 refine mv rfl rfl (sp rfl (px_len rfl Tryz.underlying26 hva0) ?_)
 refine sx_make (c := (dg m).length) rfl xelt26 (rfl) (rfl) (by omega) (by unfold maxLen; omega) (fun s3 ws3 fs3 cs3 ls3 => ?_)
 have ns3 := fs3.made
 have zws3 := cs3.size
 refine av rfl rfl (wl_nil (q_n (k2 _ _ ?_)))
 refine sx_seq fun K4 k4 => sx_region ?_
 refine av rfl rfl (wl_nil (q_n (k4 _ _ ?_)))
 refine sx_seq fun K5 k5 => ?_
 refine sx_seq fun K6 k6 => sx_region ?_
 refine mv rfl rfl ?_
 have f7 := hva0.ext cs3
 refine sp rfl (px_len rfl Tryz.underlying26 f7) ?_
 refine sp rfl (px_sub rfl rfl (by omega)) ?_
 refine av rfl rfl (wl_nil (q_n (k6 _ _ ?_)))
 refine sx_block ?_
 refine sx_loop (fun mm aa w' => ∃ (k : Nat) (os : List Int) (r : Int), Agr 38 [(0, va), (1, .int .i64 d), (6, s3), (7, .int .i64 r), (8, .int .i64 (↑k - 1))] aa ∧ Chg w.heap.size ws3.heap.size ws3 w' ∧ Own w' w.heap.size ws3.heap.size s3 intT os.length 1 (os.map (Value.int .i64)) ∧ (mm = k) ∧ (k ≤ (dg m).length) ∧ (os.length = (dg m).length) ∧ (Lm os) ∧ (0 ≤ r ∧ r < d) ∧ (vl ((dg m).drop k) = d.toNat * vl (os.drop k) + r.toNat)) (_) (fun a ha => ⟨(dg m).length, List.replicate (dg m).length 0, 0, ha.sub (Sub.c 0 rfl (.c 1 rfl (.c 6 rfl (.c 7 (look_int (t := 7) rfl (by first | omega | simp)) (.c 8 (look_int (t := 8) rfl (by first | omega | simp)) .nil))))), Chg.refl _ _ _, ns3, rfl, by omega, by simp, Lm.replicate _, by omega, by simp [vl]⟩) ?_
 rintro mm aa wl8 ⟨k, os, r, hAwl8, cwl8, hs_s3, hm, hk, hos, hlm, hr, hv⟩
 refine (show cw Tryz.prog 38 _ _ _ wl8 from ?_) aa hAwl8
 clear hAwl8
 have zwl8 := cwl8.size
 have am := (Lm_dg m).getD (k - 1)
 have hq := small_q hr.1 hr.2 am.1 am.2
 refine sx_seq fun K9 k9 => ?_
 refine sx_seq fun K10 k10 => sx_region ?_
 refine mv rfl rfl (sp rfl (px_ge rfl rfl) ?_)
 refine wl_nil (q_n (k10 _ _ ?_))
 refine sx_condP rfl (fun h7 => ?_) (fun h7 => ?_)
 ·
  refine sx_skip ?_
  refine q_n (k9 _ _ ?_)
  refine sx_seq fun K11 k11 => ?_
  refine sx_block ?_
  refine sx_seq fun K12 k12 => sx_region ?_
  refine mv rfl rfl (sp rfl (px_mul rfl rfl (by omega)) ?_)
  refine mv rfl rfl (mv rfl rfl ?_)
  have f13 := f7.chg cwl8 (by omega)
  refine sp rfl (px_index1 (j := (k - 1)) rfl rfl (by omega) Tryz.underlying26 Tryz.sizeOf3 f13 (by omega)) ?_
  refine sp rfl (px_load rfl (f13.load1 (at_int (by omega)) Tryz.isAgg3)) ?_
  refine sp rfl (px_add rfl rfl (by omega)) ?_
  refine av rfl rfl (wl_nil (q_n (k12 _ _ ?_)))
  refine sx_seq fun K14 k14 => sx_region ?_
  refine mv rfl rfl (mv rfl rfl (mv rfl rfl (mv rfl rfl (sp rfl (px_quo rfl rfl (by omega) (by omega) (by omega)) ?_))))
  refine sp rfl (px_index1 (j := (k - 1)) rfl rfl (by omega) Tryz.underlying26 Tryz.sizeOf3 hs_s3.sv (by omega)) ?_
  refine sx_storeO rfl rfl hs_s3 (by first | omega | (simp only [List.length_map]; omega)) Tryz.sizeOf3 rfl (fun w15 sw15 fw15 cw15 => ?_)
  have zw15 := cw15.size
  have nw15 := fw15.set
  refine wl_nil (q_n (k14 _ _ ?_))
  refine sx_sub (Sub.c 0 rfl (.c 1 rfl (.c 6 rfl (.c 7 rfl (.c 8 rfl .nil))))) ?_
  refine sx_region ?_
  refine mv rfl rfl (mv rfl rfl (sp rfl (px_rem rfl rfl (by omega) (by omega)) ?_))
  refine av rfl rfl (wl_nil ?_)
  refine q_bn (q_n (k11 _ _ ?_))
  refine sx_region ?_
  refine mv rfl rfl (sp rfl (px_sub rfl rfl (by omega)) ?_)
  refine av rfl rfl (wl_nil ?_)
  have q16 := Chg.step (l := w.heap.size) (h := ws3.heap.size) cwl8 cw15 (by omega)
  have hst := small_step (X := ((r * 1000000000) + ((dg m).getD (k - 1) 0))) (by omega) (by omega) (by omega) hr am rfl hv
  exact fun a ha => ⟨_, by omega, (k - 1), ((os).set (k - 1) (((r * 1000000000) + ((dg m).getD (k - 1) 0)) / d)), (((r * 1000000000) + ((dg m).getD (k - 1) 0)) % d), ha.sub (Sub.c 0 rfl (.c 1 rfl (.c 6 rfl (.c 7 (look_int (t := 7) rfl (by first | omega | simp)) (.c 8 (look_int (t := 8) rfl (by first | omega | simp)) .nil))))), q16, (nw15.mono (by omega) (by omega)), rfl, by omega, by simpa using hos, hlm.set _ hq.1 hq.2.1, hq.2.2, hst⟩
 refine sx_exit ?_
 refine q_e (q_e (q_bx (q_n (k5 _ _ ?_))))
 refine sx_seq fun K17 k17 => sx_region ?_
 refine mv rfl rfl (sx_call rfl rfl Tryz.call90 (c_trim hs_s3 (by assumption) (by first | omega | (simp only [List.length_append, List.length_set, List.length_replicate, List.length_cons, List.length_nil] at *; omega))) (fun v18 w18 p18 => ?_))
 obtain ⟨s18, rfl, os_18, c18⟩ := p18
 have zw18 := c18.size
 refine mv rfl rfl (av rfl rfl (av rfl rfl (wl_nil (q_n (k17 _ _ ?_)))))
 refine sx_retc ?_
 refine sx_ret2 Tryz.results124 rfl rfl ?_
 have e0 : k = 0 := by omega
 subst e0
 have he := div_end (m := m) (d := d.toNat) (v := vl os) (r := r.toNat) (by rw [List.drop_zero, List.drop_zero, vl_dg] at hv; exact hv) (show r.toNat < d.toNat by omega)
 have hr2 := os_18
 rw [he.1] at hr2
 have er : r = ((m % d.toNat : Nat) : Int) := by omega
 have q19 := Chg.step (l := 0) (h := 0) (Chg.zero (l := 0) (h := 0) cs3) cwl8 (by omega)
 have q20 := Chg.step (l := 0) (h := 0) q19 c18 (by omega)
 exact ⟨_, by rw [er], hr2.mono (by omega) (by omega), q20⟩

theorem c_iNatOf {w : World} {n : Int} (hn : 0 ≤ n ∧ n ≤ 9223372036854775807) :
  Ret Tryz.prog 125 [.int .i64 n] w fun v w' => ∃ s, v = s ∧ OwnI w' w.heap.size w'.heap.size s intT (dg (n).toNat) ∧ Chg 0 0 w w' := by
 refine sx_enter Tryz.func125 rfl Tryz.ntmps125 (nbl rfl) ?_
 refine sx_seq fun K1 k1 => sx_region ?_
 refine av rfl rfl (wl_nil (q_n (k1 _ _ ?_)))
 refine sx_seq fun K2 k2 => ?_
 refine sx_seq fun K3 k3 => sx_region ?_
 refine mv rfl rfl (sp rfl (px_lt rfl rfl) ?_)
 refine wl_nil (q_n (k3 _ _ ?_))
 have h56 : ¬ ((n : Int) < 0) := by omega
 refine sx_condPF rfl h56 ?_
 refine sx_skip ?_
 refine q_n (k2 _ _ ?_)
 refine sx_seq fun K4 k4 => sx_region ?_
 refine mv rfl rfl (sp rfl (px_convU Tryz.underlying3 Tryz.underlying105 rfl (by omega)) ?_)
 refine sx_call rfl rfl Tryz.call82 (c_natOf (by omega)) (fun v5 w5 p5 => ?_)
 obtain ⟨s5, rfl, os_5, c5⟩ := p5
 have zw5 := c5.size
 refine av rfl rfl (wl_nil (q_n (k4 _ _ ?_)))
 refine sx_retc ?_
 refine sx_ret1 Tryz.results125 rfl ?_
 exact ⟨_, rfl, (Own.mono os_5 (by omega) (by omega)), c5⟩

theorem c_natMul {w : World} {va : Value} {lva uva : Nat} {m : Nat} {vb : Value} {lvb uvb : Nat} {n : Nat} (hva : Sl w lva uva va (dg m)) (hvb : Sl w lvb uvb vb (dg n)) (hbm : (dg m).length ≤ 1000) (hbn : (dg n).length ≤ 1000) :
  Ret Tryz.prog 51 [va, vb] w fun v w' => ∃ s, v = s ∧ OwnI w' w.heap.size w'.heap.size s intT (dg (m * n)) ∧ Chg 0 0 w w' := by
 have hva0 := hva.fit
 have hvb0 := hvb.fit
 refine sx_enter Tryz.func51 rfl Tryz.ntmps51 (nbl rfl) ?_
 refine sx_seq fun K1 k1 => sx_region ?_
 refine av rfl rfl (wl_nil (q_n (k1 _ _ ?_)))
 refine sx_seq fun K2 k2 => sx_region ?_
 refine mv rfl rfl (sp rfl (px_len rfl Tryz.underlying26 hva0) ?_)
 refine mv rfl rfl (sp rfl (px_len rfl Tryz.underlying26 hvb0) ?_)
 refine sp rfl (px_add rfl rfl (by omega)) ?_
 refine sp rfl (px_add rfl rfl (by omega)) ?_
 refine sx_make (c := (dg m).length + (dg n).length + 1) rfl xelt26 (look_int rfl (by omega)) (look_int rfl (by omega)) (by omega) (by unfold maxLen; omega) (fun s3 ws3 fs3 cs3 ls3 => ?_)
 have ns3 := fs3.made
 have zws3 := cs3.size
 refine av rfl rfl (wl_nil (q_n (k2 _ _ ?_)))
 refine sx_seq fun K4 k4 => ?_
 refine sx_seq fun K5 k5 => sx_region ?_
 refine mv rfl rfl ?_
 have f6 := hva0.ext cs3
 refine sp rfl (px_len rfl Tryz.underlying26 f6) ?_
 refine mv rfl rfl (wl_nil (q_n (k5 _ _ ?_)))
 refine sx_block ?_
 refine sx_loop (fun mm aa w' => ∃ (k : Nat) (os : List Int), Agr 79 [(1, vb), (5, s3), (19, va), (20, .int .i64 (↑(dg m).length)), (21, .int .i64 ↑k)] aa ∧ Chg w.heap.size ws3.heap.size ws3 w' ∧ Own w' w.heap.size ws3.heap.size s3 intT os.length 1 (os.map (Value.int .i64)) ∧ (mm = (dg m).length - k) ∧ (k ≤ (dg m).length) ∧ (os.length = (dg m).length + (dg n).length + 1) ∧ (Lm os) ∧ (∀ i, k + (dg n).length ≤ i → os.getD i 0 = 0) ∧ (vl os = vl ((dg m).take k) * n)) (_) (fun a ha => ⟨0, List.replicate ((dg m).length + (dg n).length + 1) 0, ha.sub (Sub.c 1 rfl (.c 5 rfl (.c 19 rfl (.c 20 (look_int (t := 20) rfl (by first | omega | simp)) (.c 21 (look_int (t := 21) rfl (by first | omega | simp)) .nil))))), Chg.refl _ _ _, (ns3.mono (by omega) (by omega)), rfl, by omega, by simp, Lm.replicate _, fun i _ => zero_rep _ i (Nat.zero_le _), by rw [vl_replicate, List.take_zero]; simp [vl]⟩) ?_
 rintro mm aa wl7 ⟨k, os, hAwl7, cwl7, hs_s3, hm, hk, hos, hlm, hz, hv⟩
 refine (show cw Tryz.prog 79 _ _ _ wl7 from ?_) aa hAwl7
 clear hAwl7
 have zwl7 := cwl7.size
 have am := (Lm_dg m).getD k
 refine sx_seq fun K8 k8 => sx_region ?_
 refine sp rfl (px_lt rfl rfl) ?_
 refine wl_nil (q_n (k8 _ _ ?_))
 refine sx_seq fun K9 k9 => ?_
 refine sx_condP rfl (fun h140 => ?_) (fun h140 => ?_)
 ·
  refine sx_skip ?_
  refine q_n (k9 _ _ ?_)
  refine sx_seq fun K10 k10 => ?_
  refine sx_block ?_
  refine sx_seq fun K11 k11 => sx_region ?_
  refine mv rfl rfl ?_
  have f12 := f6.chg cwl7 (by omega)
  refine sp rfl (px_index1 (j := k) rfl rfl (by omega) Tryz.underlying26 Tryz.sizeOf3 f12 (by first | omega | (simp only [List.length_set]; omega))) ?_
  refine sp rfl (px_load rfl (f12.load1 (at_int (by omega)) Tryz.isAgg3)) ?_
  refine av rfl rfl (av rfl rfl (wl_nil (q_n (k11 _ _ ?_))))
  refine sx_seq fun K13 k13 => sx_region ?_
  refine av rfl rfl (wl_nil (q_n (k13 _ _ ?_)))
  refine sx_seq fun K14 k14 => ?_
  refine sx_seq fun K15 k15 => sx_region ?_
  refine mv rfl rfl ?_
  have f16 := hvb0.ext cs3
  have f17 := f16.chg cwl7 (by omega)
  refine sp rfl (px_len rfl Tryz.underlying26 f17) ?_
  refine mv rfl rfl (wl_nil (q_n (k15 _ _ ?_)))
  refine sx_sub (Sub.c 1 rfl (.c 5 rfl (.c 6 rfl (.c 7 rfl (.c 8 rfl (.c 19 rfl (.c 20 rfl (.c 21 rfl (.c 26 rfl (.c 27 rfl (.c 28 rfl .nil))))))))))) ?_
  refine sx_block ?_
  refine sx_loop (fun mm aa w' => ∃ (j : Nat) (o2 : List Int) (c : Int), Agr 79 [(1, vb), (5, s3), (6, .int .i64 ↑k), (7, .int .i64 ((dg m).getD k 0)), (8, .int .i64 c), (19, va), (20, .int .i64 (↑(dg m).length)), (21, .int .i64 ↑k), (26, vb), (27, .int .i64 (↑(dg n).length)), (28, .int .i64 ↑j)] aa ∧ Chg w.heap.size ws3.heap.size wl7 w' ∧ Own w' w.heap.size ws3.heap.size s3 intT o2.length 1 (o2.map (Value.int .i64)) ∧ (mm = (dg n).length - j) ∧ (j ≤ (dg n).length) ∧ (o2.length = (dg m).length + (dg n).length + 1) ∧ (Lm o2) ∧ (∀ i, k + (dg n).length ≤ i → o2.getD i 0 = 0) ∧ (0 ≤ c ∧ c < 1000000000) ∧ (vl o2 + Bs ^ (k + j) * c.toNat = vl os + Bs ^ k * (((dg m).getD k 0).toNat * vl ((dg n).take j)))) (_) (fun a ha => ⟨0, os, 0, ha.sub (Sub.c 1 rfl (.c 5 rfl (.c 6 rfl (.c 7 rfl (.c 8 (look_int (t := 8) rfl (by first | omega | simp)) (.c 19 rfl (.c 20 rfl (.c 21 rfl (.c 26 rfl (.c 27 (look_int (t := 27) rfl (by first | omega | simp)) (.c 28 (look_int (t := 28) rfl (by first | omega | simp)) .nil))))))))))), Chg.refl _ _ _, hs_s3, rfl, by omega, hos, hlm, hz, by omega, by simp [vl]⟩) ?_
  rintro mm aa wl18 ⟨j, o2, c, hAwl18, cwl18, hs_s3, hm, hj, hos2, hlm2, hz2, hc, hv2⟩
  refine (show cw Tryz.prog 79 _ _ _ wl18 from ?_) aa hAwl18
  clear hAwl18
  have zwl18 := cwl18.size
  have bn := (Lm_dg n).getD j
  have on := hlm2.getD (k + j)
  have hxy := mul_limb am.1 am.2 bn.1 bn.2
  refine sx_seq fun K19 k19 => sx_region ?_
  refine sp rfl (px_lt rfl rfl) ?_
  refine wl_nil (q_n (k19 _ _ ?_))
  refine sx_seq fun K20 k20 => ?_
  refine sx_condP rfl (fun h142 => ?_) (fun h142 => ?_)
  ·
   refine sx_skip ?_
   refine q_n (k20 _ _ ?_)
   refine sx_seq fun K21 k21 => ?_
   refine sx_block ?_
   refine sx_seq fun K22 k22 => sx_region ?_
   refine mv rfl rfl ?_
   have f23 := f17.chg cwl18 (by omega)
   refine sp rfl (px_index1 (j := j) rfl rfl (by omega) Tryz.underlying26 Tryz.sizeOf3 f23 (by first | omega | (simp only [List.length_set]; omega))) ?_
   refine sp rfl (px_load rfl (f23.load1 (at_int (by omega)) Tryz.isAgg3)) ?_
   refine av rfl rfl (av rfl rfl (wl_nil (q_n (k22 _ _ ?_))))
   refine sx_sub (Sub.c 1 rfl (.c 5 rfl (.c 6 rfl (.c 7 rfl (.c 8 rfl (.c 9 rfl (.c 10 rfl (.c 19 rfl (.c 20 rfl (.c 21 rfl (.c 26 rfl (.c 27 rfl (.c 28 rfl .nil))))))))))))) ?_
   refine sx_seq fun K24 k24 => sx_region ?_
   refine mv rfl rfl (mv rfl rfl (mv rfl rfl (mv rfl rfl (sp rfl (px_add rfl rfl (by omega)) ?_))))
   refine sp rfl (px_index1 (j := (k + j)) rfl rfl (by omega) Tryz.underlying26 Tryz.sizeOf3 hs_s3.sv (by first | omega | (simp only [List.length_set]; omega))) ?_
   refine sp rfl (px_load rfl (hs_s3.sv.load1 (at_int (by omega)) Tryz.isAgg3)) ?_
   refine mv rfl rfl (mv rfl rfl (sp rfl (px_mul rfl rfl (by omega)) ?_))
   refine sp rfl (px_add rfl rfl (by omega)) ?_
   refine sp rfl (px_add rfl rfl (by omega)) ?_
   refine av rfl rfl (wl_nil (q_n (k24 _ _ ?_)))
   refine sx_sub (Sub.c 1 rfl (.c 5 rfl (.c 6 rfl (.c 7 rfl (.c 8 rfl (.c 9 rfl (.c 19 rfl (.c 20 rfl (.c 21 rfl (.c 26 rfl (.c 27 rfl (.c 28 rfl .nil)))))))))))) ?_
   refine sx_seq fun K25 k25 => sx_region ?_
   refine mv rfl rfl (mv rfl rfl (mv rfl rfl (sp rfl (px_add rfl rfl (by omega)) ?_)))
   refine mv rfl rfl (sp rfl (px_rem rfl rfl (by omega) (by omega)) ?_)
   refine sp rfl (px_index1 (j := (k + j)) rfl rfl (by omega) Tryz.underlying26 Tryz.sizeOf3 hs_s3.sv (by first | omega | (simp only [List.length_set]; omega))) ?_
   refine sx_storeO rfl rfl hs_s3 (by first | omega | (simp only [List.length_map]; omega)) Tryz.sizeOf3 rfl (fun w26 sw26 fw26 cw26 => ?_)
   have zw26 := cw26.size
   have nw26 := fw26.set
   refine wl_nil (q_n (k25 _ _ ?_))
   refine sx_sub (Sub.c 1 rfl (.c 5 rfl (.c 6 rfl (.c 7 rfl (.c 8 rfl (.c 19 rfl (.c 20 rfl (.c 21 rfl (.c 26 rfl (.c 27 rfl (.c 28 rfl .nil))))))))))) ?_
   refine sx_region ?_
   refine mv rfl rfl (sp rfl (px_quo rfl rfl (by omega) (by omega) (by omega)) ?_)
   refine av rfl rfl (wl_nil ?_)
   refine q_bn (q_n (k21 _ _ ?_))
   refine sx_region ?_
   refine sp rfl (px_add rfl rfl (by omega)) ?_
   refine mv rfl rfl (wl_nil ?_)
   have q27 := Chg.step (l := w.heap.size) (h := ws3.heap.size) cwl18 cw26 (by omega)
   have hs : (c + (((o2).getD (k + j) 0) + (((dg m).getD k 0) * ((dg n).getD j 0)))) = c + (o2.getD (k + j) 0 + (dg m).getD k 0 * (dg n).getD j 0) := by omega
   have hm2 := mul_step (V := vl os) hc.1 am.1 on.1 bn.1 (by omega) (by omega) hs hv2
   exact fun a ha => ⟨_, by omega, (j + 1), ((o2).set (k + j) ((c + (((o2).getD (k + j) 0) + (((dg m).getD k 0) * ((dg n).getD j 0)))) % 1000000000)), ((c + (((o2).getD (k + j) 0) + (((dg m).getD k 0) * ((dg n).getD j 0)))) / 1000000000), ha.sub (Sub.c 1 rfl (.c 5 rfl (.c 6 rfl (.c 7 rfl (.c 8 (look_int (t := 8) rfl (by first | omega | simp)) (.c 19 rfl (.c 20 rfl (.c 21 rfl (.c 26 rfl (.c 27 rfl (.c 28 (look_int (t := 28) rfl (by first | omega | simp)) .nil))))))))))), q27, (nw26.mono (by omega) (by omega)), rfl, by omega, by simpa using hos2, hlm2.set _ (by omega) (by omega), zero_set' hz2 (by omega), by omega, hm2⟩
  refine sx_exit ?_
  refine q_e (q_e (q_bx (q_n (k14 _ _ ?_))))
  refine sx_seq fun K28 k28 => sx_region ?_
  refine mv rfl rfl (mv rfl rfl ?_)
  have f29 := f17.chg cwl18 (by omega)
  refine sp rfl (px_len rfl Tryz.underlying26 f29) ?_
  refine sp rfl (px_add rfl rfl (by omega)) ?_
  refine av rfl rfl (wl_nil (q_n (k28 _ _ ?_)))
  refine sx_sub (Sub.c 1 rfl (.c 5 rfl (.c 8 rfl (.c 11 rfl (.c 19 rfl (.c 20 rfl (.c 21 rfl .nil))))))) ?_
  refine sx_block ?_
  have ej : j = (dg n).length := by omega
  rw [ej, List.take_length, vl_dg] at hv2
  refine sx_loop (fun mm aa w' => ∃ (q : Nat) (o3 : List Int) (e : Int), Agr 79 [(1, vb), (5, s3), (8, .int .i64 e), (11, .int .i64 ↑q), (19, va), (20, .int .i64 (↑(dg m).length)), (21, .int .i64 ↑k)] aa ∧ Chg w.heap.size ws3.heap.size wl18 w' ∧ Own w' w.heap.size ws3.heap.size s3 intT o3.length 1 (o3.map (Value.int .i64)) ∧ (mm = k + (dg n).length + 1 - q) ∧ (o3.length = (dg m).length + (dg n).length + 1) ∧ (Lm o3) ∧ (∀ i, q ≤ i → o3.getD i 0 = 0) ∧ (0 ≤ e ∧ e < 1000000000) ∧ (q = k + (dg n).length ∨ (q = k + (dg n).length + 1 ∧ e = 0)) ∧ (vl o3 + Bs ^ q * e.toNat = vl os + Bs ^ k * (((dg m).getD k 0).toNat * n))) (_) (fun a ha => ⟨(k + (dg n).length), o2, c, ha.sub (Sub.c 1 rfl (.c 5 rfl (.c 8 (look_int (t := 8) rfl (by first | omega | simp)) (.c 11 (look_int (t := 11) rfl (by first | omega | simp)) (.c 19 rfl (.c 20 rfl (.c 21 rfl .nil))))))), Chg.refl _ _ _, hs_s3, rfl, hos2, hlm2, hz2, by omega, .inl rfl, hv2⟩) ?_
  rintro mm aa wl30 ⟨q, o3, e, hAwl30, cwl30, hs_s3, hm, hos3, hlm3, hz3, he, hq, hv3⟩
  refine (show cw Tryz.prog 79 _ _ _ wl30 from ?_) aa hAwl30
  clear hAwl30
  have zwl30 := cwl30.size
  have on := hlm3.getD q
  have oz := hz3 q (Nat.le_refl _)
  refine sx_seq fun K31 k31 => ?_
  refine sx_seq fun K32 k32 => sx_region ?_
  refine mv rfl rfl (sp rfl (px_gt rfl rfl) ?_)
  refine wl_nil (q_n (k32 _ _ ?_))
  refine sx_condP rfl (fun h147 => ?_) (fun h147 => ?_)
  ·
   refine sx_skip ?_
   refine q_n (k31 _ _ ?_)
   refine sx_seq fun K33 k33 => ?_
   refine sx_block ?_
   refine sx_seq fun K34 k34 => sx_region ?_
   refine mv rfl rfl (mv rfl rfl (mv rfl rfl (sp rfl (px_index1 (j := q) rfl rfl (by omega) Tryz.underlying26 Tryz.sizeOf3 hs_s3.sv (by first | omega | (simp only [List.length_set]; omega))) ?_)))
   refine sp rfl (px_load rfl (hs_s3.sv.load1 (at_int (by omega)) Tryz.isAgg3)) ?_
   refine sp rfl (px_add rfl rfl (by omega)) ?_
   refine av rfl rfl (wl_nil (q_n (k34 _ _ ?_)))
   refine sx_sub (Sub.c 1 rfl (.c 5 rfl (.c 8 rfl (.c 11 rfl (.c 19 rfl (.c 20 rfl (.c 21 rfl .nil))))))) ?_
   refine sx_seq fun K35 k35 => sx_region ?_
   refine mv rfl rfl (mv rfl rfl (mv rfl rfl (sp rfl (px_rem rfl rfl (by omega) (by omega)) ?_)))
   refine sp rfl (px_index1 (j := q) rfl rfl (by omega) Tryz.underlying26 Tryz.sizeOf3 hs_s3.sv (by first | omega | (simp only [List.length_set]; omega))) ?_
   refine sx_storeO rfl rfl hs_s3 (by first | omega | (simp only [List.length_map]; omega)) Tryz.sizeOf3 rfl (fun w36 sw36 fw36 cw36 => ?_)
   have zw36 := cw36.size
   have nw36 := fw36.set
   refine wl_nil (q_n (k35 _ _ ?_))
   refine sx_region ?_
   refine mv rfl rfl (sp rfl (px_quo rfl rfl (by omega) (by omega) (by omega)) ?_)
   refine av rfl rfl (wl_nil ?_)
   refine q_bn (q_n (k33 _ _ ?_))
   refine sx_region ?_
   refine mv rfl rfl (sp rfl (px_add rfl rfl (by omega)) ?_)
   refine av rfl rfl (wl_nil ?_)
   have q37 := Chg.step (l := w.heap.size) (h := ws3.heap.size) cwl30 cw36 (by omega)
   have hs : (e + ((o3).getD q 0)) = e + o3.getD q 0 := by omega
   have hm3 := carry_gen (by omega) he.1 on.1 hs hv3
   exact fun a ha => ⟨_, by omega, (q + 1), ((o3).set q ((e + ((o3).getD q 0)) % 1000000000)), ((e + ((o3).getD q 0)) / 1000000000), ha.sub (Sub.c 1 rfl (.c 5 rfl (.c 8 (look_int (t := 8) rfl (by first | omega | simp)) (.c 11 (look_int (t := 11) rfl (by first | omega | simp)) (.c 19 rfl (.c 20 rfl (.c 21 rfl .nil))))))), q37, (nw36.mono (by omega) (by omega)), rfl, by simpa using hos3, hlm3.set _ (by omega) (by omega), zero_set hz3 (by omega), by omega, .inr (by omega), hm3⟩
  refine sx_exit ?_
  refine q_e (q_e (q_bx (q_bn (q_n (k10 _ _ ?_)))))
  have e0 : e = 0 := by omega
  subst e0
  have hosR := hos3
  have hlmR := hlm3
  have hzR : ∀ i, k + (dg n).length + 1 ≤ i → o3.getD i 0 = 0 := fun i hi => hz3 i (by omega)
  have hvR : vl o3 = vl os + Bs ^ k * (((dg m).getD k 0).toNat * n) := by simpa using hv3
  refine sx_region ?_
  refine sp rfl (px_add rfl rfl (by omega)) ?_
  refine mv rfl rfl (wl_nil ?_)
  have q38 := Chg.step (l := w.heap.size) (h := ws3.heap.size) cwl7 cwl18 (by omega)
  have q39 := Chg.step (l := w.heap.size) (h := ws3.heap.size) q38 cwl30 (by omega)
  have hrow := mul_row (P := Bs ^ k) (a := ((dg m).getD k 0).toNat) hv
  rw [← vl_take_succ'] at hrow
  exact fun a ha => ⟨_, by omega, (k + 1), o3, ha.sub (Sub.c 1 rfl (.c 5 rfl (.c 19 rfl (.c 20 rfl (.c 21 (look_int (t := 21) rfl (by first | omega | simp)) .nil))))), q39, (hs_s3.mono (by omega) (by omega)), rfl, by omega, by simpa using hosR, hlmR, fun i hi => hzR i (by omega), hvR.trans hrow⟩
 refine sx_exit ?_
 refine q_e (q_e (q_bx (q_n (k4 _ _ ?_))))
 refine sx_seq fun K40 k40 => ?_
 have ek : k = (dg m).length := by omega
 rw [ek, List.take_length, vl_dg] at hv
 have hzz := hlm
 refine sx_region ?_
 refine mv rfl rfl (sx_call rfl rfl Tryz.call90 (c_trim hs_s3 (by assumption) (by first | omega | (simp only [List.length_append, List.length_set, List.length_replicate, List.length_cons, List.length_nil] at *; omega))) (fun v41 w41 p41 => ?_))
 obtain ⟨s41, rfl, os_41, c41⟩ := p41
 have zw41 := c41.size
 refine av rfl rfl (wl_nil (q_n (k40 _ _ ?_)))
 refine sx_retc ?_
 refine sx_ret1 Tryz.results51 rfl ?_
 have hr := os_41
 rw [hv] at hr
 have q42 := Chg.step (l := 0) (h := 0) (Chg.zero (l := 0) (h := 0) cs3) cwl7 (by omega)
 have q43 := Chg.step (l := 0) (h := 0) q42 c41 (by omega)
 exact ⟨_, rfl, hr.mono (by omega) (by omega), q43⟩

theorem c_natMulS {w : World} {va : Value} {lva uva : Nat} {m : Nat} {vb : Value} {lvb uvb : Nat} {ys : List Int} (hva : Sl w lva uva va (dg m)) (hvb : Sl w lvb uvb vb (ys)) (hbm : (dg m).length ≤ 1000) (hbn : ys.length ≤ 1000) (hy : ys = dg (vl ys)) :
  Ret Tryz.prog 51 [va, vb] w fun v w' => ∃ s, v = s ∧ OwnI w' w.heap.size w'.heap.size s intT (dg (m * vl ys)) ∧ Chg 0 0 w w' := by
 have hl : (dg (vl ys)).length ≤ 1000 := by rw [← hy]; exact hbn
 rw [hy] at hvb; exact c_natMul hva hvb hbm hl

theorem c_subTimes {w : World} {va : Value} {lva uva : Nat} {preva sufva : List Value} {zs : List Int} {vb : Value} {lvb uvb : Nat} {ys : List Int} {q : Int} (hva : Win w lva uva va intT preva sufva zs) (hvb : Sl w lvb uvb vb (ys)) (hd : uvb ≤ lva ∨ uva ≤ lvb) (hzl : zs.length = ys.length + 1) (hz : Lm zs) (hy : Lm ys) (hq : 0 ≤ q ∧ q ≤ 999999999) (h63 : zs.length ≤ 1000) :
  Ret Tryz.prog 144 [va, vb, .int .i64 q] w fun v w' => ∃ os, v = .bool (decide ((os).getD (ys).length 0 < 0)) ∧ Win w' lva uva va intT preva sufva (os) ∧ ((os).length = (zs).length ∧ Lm ((os).take (ys).length) ∧ ((vl ((os).take (ys).length) : Nat) : Int) + ((Bs ^ (ys).length : Nat) : Int) * (os).getD (ys).length 0 = ((vl ((zs).take (ys).length) : Nat) : Int) + ((Bs ^ (ys).length : Nat) : Int) * (zs).getD (ys).length 0 - q * ((vl ys : Nat) : Int)) ∧ Chg lva uva w w' := by
 refine sx_enter Tryz.func144 rfl Tryz.ntmps144 (nbl rfl) ?_
 refine sx_seq fun K1 k1 => sx_region ?_
 refine av rfl rfl (wl_nil (q_n (k1 _ _ ?_)))
 refine sx_seq fun K2 k2 => sx_region ?_
 refine av rfl rfl (wl_nil (q_n (k2 _ _ ?_)))
 refine sx_seq fun K3 k3 => ?_
 refine sx_seq fun K4 k4 => sx_region ?_
 refine mv rfl rfl (sp rfl (px_len rfl Tryz.underlying26 hvb) ?_)
 refine mv rfl rfl (wl_nil (q_n (k4 _ _ ?_)))
 refine sx_block ?_
 refine sx_loop (fun mm aa w' => ∃ (k : Nat) (os : List Int) (c : Int), Agr 58 [(0, va), (1, vb), (2, .int .i64 q), (7, .int .i64 c), (11, vb), (12, .int .i64 ↑ys.length), (13, .int .i64 ↑k)] aa ∧ Chg lva uva w w' ∧ Win w' lva uva va intT preva sufva (os) ∧ (mm = ys.length - k) ∧ (k ≤ ys.length) ∧ (os.length = zs.length) ∧ (Lm (os.take k)) ∧ (os.drop k = zs.drop k) ∧ (0 ≤ c ∧ c < 1000000000) ∧ (vl (zs.take k) + Bs ^ k * c.toNat = vl (os.take k) + q.toNat * vl (ys.take k))) (_) (fun a ha => ⟨0, zs, 0, ha.sub (Sub.c 0 rfl (.c 1 rfl (.c 2 rfl (.c 7 (look_int (t := 7) rfl (by first | omega | simp)) (.c 11 rfl (.c 12 (look_int (t := 12) rfl (by first | omega | simp)) (.c 13 (look_int (t := 13) rfl (by first | omega | simp)) .nil))))))), Chg.refl _ _ _, hva, rfl, by omega, rfl, Lm.nil, rfl, by omega, by simp [vl]⟩) ?_
 rintro mm aa wl5 ⟨k, os, c, hAwl5, cwl5, hs_va, hm, hk, ho, hlm, hdr, hc, hv⟩
 refine (show cw Tryz.prog 58 _ _ _ wl5 from ?_) aa hAwl5
 clear hAwl5
 have zwl5 := cwl5.size
 have un := hz.getD k
 have yn := hy.getD k
 have hxy := mul_limb yn.1 yn.2 hq.1 (by omega)
 have ue := getD_drop hdr
 refine sx_seq fun K6 k6 => sx_region ?_
 refine sp rfl (px_lt rfl rfl) ?_
 refine wl_nil (q_n (k6 _ _ ?_))
 refine sx_seq fun K7 k7 => ?_
 refine sx_condP rfl (fun h57 => ?_) (fun h57 => ?_)
 ·
  refine sx_skip ?_
  refine q_n (k7 _ _ ?_)
  refine sx_seq fun K8 k8 => ?_
  refine sx_block ?_
  refine sx_seq fun K9 k9 => sx_region ?_
  refine mv rfl rfl ?_
  have f10 := hvb.chg cwl5 (by omega)
  refine sp rfl (px_index1 (j := k) rfl rfl (by omega) Tryz.underlying26 Tryz.sizeOf3 f10 (by first | omega | (simp only [List.length_set]; omega))) ?_
  refine sp rfl (px_load rfl (f10.load1 (at_int (by first | omega | (simp only [List.length_set]; omega))) Tryz.isAgg3)) ?_
  refine av rfl rfl (av rfl rfl (wl_nil (q_n (k9 _ _ ?_))))
  refine sx_seq fun K11 k11 => sx_region ?_
  refine mv rfl rfl (mv rfl rfl (sp rfl (px_index1 (j := k) rfl rfl (by omega) Tryz.underlying26 Tryz.sizeOf3 hs_va.sv (by first | omega | (simp only [List.length_set]; omega))) ?_))
  refine sp rfl (px_load rfl (hs_va.sv.load1 (at_int (by first | omega | (simp only [List.length_set]; omega))) Tryz.isAgg3)) ?_
  refine mv rfl rfl (mv rfl rfl (sp rfl (px_mul rfl rfl (by omega)) ?_))
  refine sp rfl (px_sub rfl rfl (by omega)) ?_
  refine mv rfl rfl (sp rfl (px_sub rfl rfl (by omega)) ?_)
  refine av rfl rfl (wl_nil (q_n (k11 _ _ ?_)))
  refine sx_sub (Sub.c 0 rfl (.c 1 rfl (.c 2 rfl (.c 7 rfl (.c 8 rfl (.c 10 rfl (.c 11 rfl (.c 12 rfl (.c 13 rfl .nil))))))))) ?_
  refine sx_seq fun K12 k12 => sx_region ?_
  refine av rfl rfl (wl_nil (q_n (k12 _ _ ?_)))
  refine sx_seq fun K13 k13 => ?_
  refine sx_seq fun K14 k14 => sx_region ?_
  refine mv rfl rfl (sp rfl (px_lt rfl rfl) ?_)
  refine wl_nil (q_n (k14 _ _ ?_))
  refine sx_condP rfl (fun h60 => ?_) (fun h60 => ?_)
  ·
   refine sx_seq fun K15 k15 => sx_region ?_
   refine mv rfl rfl (sp rfl (px_neg rfl (by omega)) ?_)
   refine sp rfl (px_add rfl rfl (by omega)) ?_
   refine sp rfl (px_sub rfl rfl (by omega)) ?_
   refine sp rfl (px_quo rfl rfl (by omega) (by omega) (by omega)) ?_
   refine av rfl rfl (wl_nil (q_n (k15 _ _ ?_)))
   refine sx_sub (Sub.c 0 rfl (.c 1 rfl (.c 2 rfl (.c 7 rfl (.c 8 rfl (.c 10 rfl (.c 11 rfl (.c 12 rfl (.c 13 rfl .nil))))))))) ?_
   refine sx_region ?_
   refine mv rfl rfl (mv rfl rfl (sp rfl (px_mul rfl rfl (by omega)) ?_))
   refine sp rfl (px_add rfl rfl (by omega)) ?_
   refine av rfl rfl (wl_nil (q_n (k13 _ _ ?_)))
   refine sx_region ?_
   refine mv rfl rfl (mv rfl rfl (mv rfl rfl (sp rfl (px_index1 (j := k) rfl rfl (by omega) Tryz.underlying26 Tryz.sizeOf3 hs_va.sv (by first | omega | (simp only [List.length_set]; omega))) ?_)))
   refine sx_storeW rfl rfl hs_va (by first | omega | (simp only [List.length_set]; omega)) Tryz.sizeOf3 (fun w16 sw16 fw16 cw16 => ?_)
   have zw16 := cw16.size
   refine wl_nil ?_
   refine q_bn (q_n (k8 _ _ ?_))
   refine sx_sub (Sub.c 0 rfl (.c 1 rfl (.c 2 rfl (.c 7 rfl (.c 11 rfl (.c 12 rfl (.c 13 rfl .nil))))))) ?_
   refine sx_region ?_
   refine sp rfl (px_add rfl rfl (by omega)) ?_
   refine mv rfl rfl (wl_nil ?_)
   have q17 := Chg.step (l := lva) (h := uva) cwl5 cw16 (by omega)
   have hxl : (0 : Int) ≤ (((((os).getD k 0) - (((ys).getD k 0) * q)) - c) + (((((-((((os).getD k 0) - (((ys).getD k 0) * q)) - c)) + 1000000000) - 1) / 1000000000) * 1000000000)) ∧ (((((os).getD k 0) - (((ys).getD k 0) * q)) - c) + (((((-((((os).getD k 0) - (((ys).getD k 0) * q)) - c)) + 1000000000) - 1) / 1000000000) * 1000000000)) < 1000000000 := by omega
   have hcl : (0 : Int) ≤ ((((-((((os).getD k 0) - (((ys).getD k 0) * q)) - c)) + 1000000000) - 1) / 1000000000) ∧ ((((-((((os).getD k 0) - (((ys).getD k 0) * q)) - c)) + 1000000000) - 1) / 1000000000) < (1000000000 : Int) := by omega
   have hnx := subt_next (ys := ys) (x := (((((os).getD k 0) - (((ys).getD k 0) * q)) - c) + (((((-((((os).getD k 0) - (((ys).getD k 0) * q)) - c)) + 1000000000) - 1) / 1000000000) * 1000000000))) (c' := ((((-((((os).getD k 0) - (((ys).getD k 0) * q)) - c)) + 1000000000) - 1) / 1000000000)) (by omega) hdr hq.1 hc.1 hcl.1 hxl un.1 yn.1 (by omega) hv
   exact fun a ha => ⟨_, by omega, (k + 1), ((os).set k (((((os).getD k 0) - (((ys).getD k 0) * q)) - c) + (((((-((((os).getD k 0) - (((ys).getD k 0) * q)) - c)) + 1000000000) - 1) / 1000000000) * 1000000000))), ((((-((((os).getD k 0) - (((ys).getD k 0) * q)) - c)) + 1000000000) - 1) / 1000000000), ha.sub (Sub.c 0 rfl (.c 1 rfl (.c 2 rfl (.c 7 (look_int (t := 7) rfl (by first | omega | simp)) (.c 11 rfl (.c 12 rfl (.c 13 (look_int (t := 13) rfl (by first | omega | simp)) .nil))))))), q17, (fw16.mono (by omega) (by omega)), rfl, by omega, by rw [List.length_set]; exact ho, Lm_take_set hlm (by omega) hxl.1 hxl.2, drop_set_succ hdr, hcl, hnx⟩
  refine sx_skip ?_
  refine q_n (k13 _ _ ?_)
  refine sx_region ?_
  refine mv rfl rfl (mv rfl rfl (mv rfl rfl (sp rfl (px_index1 (j := k) rfl rfl (by omega) Tryz.underlying26 Tryz.sizeOf3 hs_va.sv (by first | omega | (simp only [List.length_set]; omega))) ?_)))
  refine sx_storeW rfl rfl hs_va (by first | omega | (simp only [List.length_set]; omega)) Tryz.sizeOf3 (fun w18 sw18 fw18 cw18 => ?_)
  have zw18 := cw18.size
  refine wl_nil ?_
  refine q_bn (q_n (k8 _ _ ?_))
  refine sx_sub (Sub.c 0 rfl (.c 1 rfl (.c 2 rfl (.c 7 rfl (.c 11 rfl (.c 12 rfl (.c 13 rfl .nil))))))) ?_
  refine sx_region ?_
  refine sp rfl (px_add rfl rfl (by omega)) ?_
  refine mv rfl rfl (wl_nil ?_)
  have q19 := Chg.step (l := lva) (h := uva) cwl5 cw18 (by omega)
  have hxl : (0 : Int) ≤ ((((os).getD k 0) - (((ys).getD k 0) * q)) - c) ∧ ((((os).getD k 0) - (((ys).getD k 0) * q)) - c) < 1000000000 := by omega
  have hcl : (0 : Int) ≤ 0 ∧ 0 < (1000000000 : Int) := by omega
  have hnx := subt_next (ys := ys) (x := ((((os).getD k 0) - (((ys).getD k 0) * q)) - c)) (c' := 0) (by omega) hdr hq.1 hc.1 hcl.1 hxl un.1 yn.1 (by omega) hv
  exact fun a ha => ⟨_, by omega, (k + 1), ((os).set k ((((os).getD k 0) - (((ys).getD k 0) * q)) - c)), 0, ha.sub (Sub.c 0 rfl (.c 1 rfl (.c 2 rfl (.c 7 (look_int (t := 7) rfl (by first | omega | simp)) (.c 11 rfl (.c 12 rfl (.c 13 (look_int (t := 13) rfl (by first | omega | simp)) .nil))))))), q19, (fw18.mono (by omega) (by omega)), rfl, by omega, by rw [List.length_set]; exact ho, Lm_take_set hlm (by omega) hxl.1 hxl.2, drop_set_succ hdr, hcl, hnx⟩
 refine sx_exit ?_
 refine q_e (q_e (q_bx (q_n (k3 _ _ ?_))))
 refine sx_seq fun K20 k20 => ?_
 have ek : k = ys.length := by omega
 subst ek
 refine sx_region ?_
 refine mv rfl rfl (mv rfl rfl ?_)
 have f21 := hvb.chg cwl5 (by omega)
 refine sp rfl (px_len rfl Tryz.underlying26 f21) ?_
 refine sp rfl (px_index1 (j := (ys).length) rfl rfl (by omega) Tryz.underlying26 Tryz.sizeOf3 hs_va.sv (by first | omega | (simp only [List.length_set]; omega))) ?_
 refine sp rfl (px_load rfl (hs_va.sv.load1 (at_int (by first | omega | (simp only [List.length_set]; omega))) Tryz.isAgg3)) ?_
 refine mv rfl rfl (sp rfl (px_sub rfl rfl (by omega)) ?_)
 refine sp rfl (px_index1 (j := (ys).length) rfl rfl (by omega) Tryz.underlying26 Tryz.sizeOf3 hs_va.sv (by first | omega | (simp only [List.length_set]; omega))) ?_
 refine sx_storeW rfl rfl hs_va (by first | omega | (simp only [List.length_set]; omega)) Tryz.sizeOf3 (fun w22 sw22 fw22 cw22 => ?_)
 have zw22 := cw22.size
 refine wl_nil (q_n (k20 _ _ ?_))
 refine sx_sub (Sub.c 0 rfl (.c 1 rfl .nil)) ?_
 refine sx_seq fun K23 k23 => sx_region ?_
 refine mv rfl rfl (mv rfl rfl ?_)
 have f24 := f21.chg cw22 (by omega)
 refine sp rfl (px_len rfl Tryz.underlying26 f24) ?_
 refine sp rfl (px_index1 (j := (ys).length) rfl rfl (by omega) Tryz.underlying26 Tryz.sizeOf3 fw22.sv (by first | omega | (simp only [List.length_set]; omega))) ?_
 refine sp rfl (px_load rfl (fw22.sv.load1 (at_int (by first | omega | (simp only [List.length_set]; omega))) Tryz.isAgg3)) ?_
 refine sp rfl (px_lt rfl rfl) ?_
 refine av rfl rfl (wl_nil (q_n (k23 _ _ ?_)))
 refine sx_retc ?_
 refine sx_ret1 Tryz.results144 rfl ?_
 have he := subt_end (ys := ys) (by omega) rfl hdr hq.1 hc.1 hv
 have q25 := Chg.step (l := lva) (h := uva) cwl5 cw22 (by omega)
 exact ⟨((os).set ((ys).length) (((os).getD ((ys).length) 0) - c)), rfl, fw22, ⟨by rw [List.length_set]; exact ho, by rw [take_set_self]; exact hlm, he⟩, q25⟩

theorem c_addBack {w : World} {va : Value} {lva uva : Nat} {preva sufva : List Value} {zs : List Int} {vb : Value} {lvb uvb : Nat} {ys : List Int} (hva : Win w lva uva va intT preva sufva zs) (hvb : Sl w lvb uvb vb (ys)) (hd : uvb ≤ lva ∨ uva ≤ lvb) (hzl : zs.length = ys.length + 1) (hz : Lm (zs.take ys.length)) (hy : Lm ys) (ht : -1000000000 ≤ zs.getD ys.length 0 ∧ zs.getD ys.length 0 ≤ 1000000000) (h63 : zs.length ≤ 1000) :
  Ret Tryz.prog 145 [va, vb] w fun v w' => ∃ os, v = .tuple #[] ∧ Win w' lva uva va intT preva sufva (os) ∧ ((os).length = (zs).length ∧ Lm ((os).take (ys).length) ∧ ((vl ((os).take (ys).length) : Nat) : Int) + ((Bs ^ (ys).length : Nat) : Int) * (os).getD (ys).length 0 = ((vl ((zs).take (ys).length) : Nat) : Int) + ((Bs ^ (ys).length : Nat) : Int) * (zs).getD (ys).length 0 + ((vl ys : Nat) : Int)) ∧ Chg lva uva w w' := by
 refine sx_enter Tryz.func145 rfl Tryz.ntmps145 (nbl rfl) ?_
 refine sx_seq fun K1 k1 => sx_region ?_
 refine av rfl rfl (wl_nil (q_n (k1 _ _ ?_)))
 refine sx_seq fun K2 k2 => ?_
 refine sx_seq fun K3 k3 => sx_region ?_
 refine mv rfl rfl (sp rfl (px_len rfl Tryz.underlying26 hvb) ?_)
 refine mv rfl rfl (wl_nil (q_n (k3 _ _ ?_)))
 refine sx_block ?_
 refine sx_loop (fun mm aa w' => ∃ (k : Nat) (os : List Int) (c : Nat), Agr 38 [(0, va), (1, vb), (4, .int .i64 ((c : Nat) : Int)), (7, vb), (8, .int .i64 ↑ys.length), (9, .int .i64 ↑k)] aa ∧ Chg lva uva w w' ∧ Win w' lva uva va intT preva sufva (os) ∧ (mm = ys.length - k) ∧ (k ≤ ys.length) ∧ (os.length = zs.length) ∧ (Lm (os.take k)) ∧ (os.drop k = zs.drop k) ∧ (c ≤ 1) ∧ (vl (os.take k) + Bs ^ k * c = vl (zs.take k) + vl (ys.take k))) (_) (fun a ha => ⟨0, zs, 0, ha.sub (Sub.c 0 rfl (.c 1 rfl (.c 4 (look_int (t := 4) rfl (by first | omega | simp)) (.c 7 rfl (.c 8 (look_int (t := 8) rfl (by first | omega | simp)) (.c 9 (look_int (t := 9) rfl (by first | omega | simp)) .nil)))))), Chg.refl _ _ _, hva, rfl, by omega, rfl, Lm.nil, rfl, by omega, by simp [vl]⟩) ?_
 rintro mm aa wl4 ⟨k, os, c, hAwl4, cwl4, hs_va, hm, hk, ho, hlm, hdr, hc, hv⟩
 refine (show cw Tryz.prog 38 _ _ _ wl4 from ?_) aa hAwl4
 clear hAwl4
 have zwl4 := cwl4.size
 refine sx_seq fun K5 k5 => sx_region ?_
 refine sp rfl (px_lt rfl rfl) ?_
 refine wl_nil (q_n (k5 _ _ ?_))
 refine sx_seq fun K6 k6 => ?_
 refine sx_condP rfl (fun h73 => ?_) (fun h73 => ?_)
 ·
  have un := hz.getD k
  rw [getD_take (by omega)] at un
  have yn := hy.getD k
  have ue := getD_drop hdr
  refine sx_skip ?_
  refine q_n (k6 _ _ ?_)
  refine sx_seq fun K7 k7 => ?_
  refine sx_block ?_
  refine sx_seq fun K8 k8 => sx_region ?_
  refine mv rfl rfl ?_
  have f9 := hvb.chg cwl4 (by omega)
  refine sp rfl (px_index1 (j := k) rfl rfl (by omega) Tryz.underlying26 Tryz.sizeOf3 f9 (by first | omega | (simp only [List.length_set]; omega))) ?_
  refine sp rfl (px_load rfl (f9.load1 (at_int (by first | omega | (simp only [List.length_set]; omega))) Tryz.isAgg3)) ?_
  refine av rfl rfl (av rfl rfl (wl_nil (q_n (k8 _ _ ?_))))
  refine sx_seq fun K10 k10 => sx_region ?_
  refine mv rfl rfl (mv rfl rfl (mv rfl rfl (sp rfl (px_index1 (j := k) rfl rfl (by omega) Tryz.underlying26 Tryz.sizeOf3 hs_va.sv (by first | omega | (simp only [List.length_set]; omega))) ?_)))
  refine sp rfl (px_load rfl (hs_va.sv.load1 (at_int (by first | omega | (simp only [List.length_set]; omega))) Tryz.isAgg3)) ?_
  refine mv rfl rfl (sp rfl (px_add rfl rfl (by omega)) ?_)
  refine sp rfl (px_add rfl rfl (by omega)) ?_
  refine av rfl rfl (wl_nil (q_n (k10 _ _ ?_)))
  refine sx_sub (Sub.c 0 rfl (.c 1 rfl (.c 4 rfl (.c 5 rfl (.c 7 rfl (.c 8 rfl (.c 9 rfl .nil))))))) ?_
  refine sx_seq fun K11 k11 => sx_region ?_
  refine mv rfl rfl (mv rfl rfl (mv rfl rfl (sp rfl (px_rem rfl rfl (by omega) (by omega)) ?_)))
  refine sp rfl (px_index1 (j := k) rfl rfl (by omega) Tryz.underlying26 Tryz.sizeOf3 hs_va.sv (by first | omega | (simp only [List.length_set]; omega))) ?_
  refine sx_storeW rfl rfl hs_va (by first | omega | (simp only [List.length_set]; omega)) Tryz.sizeOf3 (fun w12 sw12 fw12 cw12 => ?_)
  have zw12 := cw12.size
  refine wl_nil (q_n (k11 _ _ ?_))
  refine sx_region ?_
  refine mv rfl rfl (sp rfl (px_quo rfl rfl (by omega) (by omega) (by omega)) ?_)
  refine av rfl rfl (wl_nil ?_)
  refine q_bn (q_n (k7 _ _ ?_))
  refine sx_region ?_
  refine sp rfl (px_add rfl rfl (by omega)) ?_
  refine mv rfl rfl (wl_nil ?_)
  have q13 := Chg.step (l := lva) (h := uva) cwl4 cw12 (by omega)
  have hnx := addb_next (ys := ys) (s := (((c : Nat) : Int) + (((os).getD k 0) + ((ys).getD k 0)))) (c := c) (by omega) hdr un.1 yn.1 (by omega) hv
  exact fun a ha => ⟨_, by omega, (k + 1), ((os).set k ((((c : Nat) : Int) + (((os).getD k 0) + ((ys).getD k 0))) % 1000000000)), ((((c : Nat) : Int) + (((os).getD k 0) + ((ys).getD k 0))) / 1000000000).toNat, ha.sub (Sub.c 0 rfl (.c 1 rfl (.c 4 (look_int (t := 4) rfl (by first | omega | simp)) (.c 7 rfl (.c 8 rfl (.c 9 (look_int (t := 9) rfl (by first | omega | simp)) .nil)))))), q13, (fw12.mono (by omega) (by omega)), rfl, by omega, by rw [List.length_set]; exact ho, Lm_take_set hlm (by omega) (by omega) (by omega), drop_set_succ hdr, by omega, hnx⟩
 refine sx_exit ?_
 refine q_e (q_e (q_bx (q_n (k2 _ _ ?_))))
 have ek : k = ys.length := by omega
 subst ek
 have ue := getD_drop hdr
 refine sx_region ?_
 refine mv rfl rfl (mv rfl rfl ?_)
 have f14 := hvb.chg cwl4 (by omega)
 refine sp rfl (px_len rfl Tryz.underlying26 f14) ?_
 refine sp rfl (px_index1 (j := (ys).length) rfl rfl (by omega) Tryz.underlying26 Tryz.sizeOf3 hs_va.sv (by first | omega | (simp only [List.length_set]; omega))) ?_
 refine sp rfl (px_load rfl (hs_va.sv.load1 (at_int (by first | omega | (simp only [List.length_set]; omega))) Tryz.isAgg3)) ?_
 refine mv rfl rfl (sp rfl (px_add rfl rfl (by omega)) ?_)
 refine sp rfl (px_index1 (j := (ys).length) rfl rfl (by omega) Tryz.underlying26 Tryz.sizeOf3 hs_va.sv (by first | omega | (simp only [List.length_set]; omega))) ?_
 refine sx_storeW rfl rfl hs_va (by first | omega | (simp only [List.length_set]; omega)) Tryz.sizeOf3 (fun w15 sw15 fw15 cw15 => ?_)
 have zw15 := cw15.size
 refine wl_nil ?_
 refine sx_end0 rfl ?_
 have he := addb_end (ys := ys) (by omega) rfl hdr hv
 have q16 := Chg.step (l := lva) (h := uva) cwl4 cw15 (by omega)
 exact ⟨((os).set ((ys).length) (((os).getD ((ys).length) 0) + ((c : Nat) : Int))), rfl, fw15, ⟨by rw [List.length_set]; exact ho, by rw [take_set_self]; exact hlm, he⟩, q16⟩

end Go.Proofs.YtcghgfmickgnkaaGreatDoor
