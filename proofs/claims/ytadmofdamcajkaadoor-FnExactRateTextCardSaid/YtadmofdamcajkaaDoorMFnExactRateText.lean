/- Contracts of functions of the program: what each call returns, and that it changes nothing that was. Conditions: as each says. -/
import Derived.Test.YtadmofdamcajkaaDoorTy
import Derived.Test.YtadmofdamcajkaaDoorNatI
import Derived.Test.YtadmofdamcajkaaDoorSxD
import Derived.Test.YtadmofdamcajkaaDoorSxT
import Derived.Test.YtadmofdamcajkaaDoorTab
import Derived.Test.YtadmofdamcajkaaDoorLay
import Derived.Test.YtadmofdamcajkaaDoorLayB
import Derived.Test.YtadmofdamcajkaaDoorNatX
import Derived.Test.YtadmofdamcajkaaDoorSxP
import Derived.Test.YtadmofdamcajkaaDoorL0
set_option linter.unusedVariables false
set_option linter.unusedSimpArgs false
namespace Go.Proofs.YtadmofdamcajkaaDoor
open Go Go.RowKit
set_option maxRecDepth 100000
set_option maxHeartbeats 1000000
theorem law_RateText {w : World} {f1 : ByteArray} {t1 : ByteArray} {n1 : Bool} {v1 : Value} {lv1 uv1 : Nat} {z1 : List Int} {p1 : Int} (hG0 : Glob w) (hGT : GlobP w) (hv1 : Sl w lv1 uv1 v1 (z1)) (bf1 : f1.size ≤ 9223372036854775807) (bt1 : t1.size ≤ 9223372036854775807) (bz1 : z1.length ≤ 9223372036854775807) :
  Ret Tryd.prog 3 [.agg #[.string f1, .string t1, .bool n1, v1, .int .i64 p1]] w fun v w' => v = .bool (true) ∧ Chg 0 0 w w' := by
 have hGTl := hGT.lt
 have hv10 := hv1.fit
 have hG0l : 0 < w.heap.size := by obtain ⟨T, fz, h1⟩ := hG0; rcases Nat.lt_or_ge 0 w.heap.size with h2 | h2; exact h2; simp [Array.getElem?_eq_none h2] at h1
 refine sx_enter Tryd.func3 rfl Tryd.ntmps3 (nbl rfl) ?_
 refine sx_seq fun K1 k1 => sx_region ?_
 refine sx_box [.string f1, .string t1, .bool n1, v1, .int .i64 p1] rfl rfl rfl (fun b2 w3 eb2 sb2 fb2 cb2 => ?_)
 have zw3 := cb2.size
 refine av rfl rfl (wl_nil (q_n (k1 _ _ ?_)))
 refine sx_seq fun K4 k4 => sx_region ?_
 refine av rfl rfl (wl_nil (q_n (k4 _ _ ?_)))
 refine sx_seq fun K5 k5 => sx_region ?_
 refine sp rfl (px_load rfl (fb2.loadA (vs := [.string f1, .string t1, .bool n1, v1, .int .i64 p1]) (look_lit rfl) Tryd.isAgg28 Tryd.sizeOf28)) ?_
 refine mv rfl rfl ?_
 have f6 := hv10.ext cb2
 refine sx_call rfl rfl Tryd.call4 (c_szRate f6 (by omega) (by omega) (by omega) (by omega)) (fun v7 w7 p7 => ?_)
 obtain ⟨r7, rfl, hr7, c7⟩ := p7
 have zw7 := c7.size
 refine av rfl rfl (wl_nil (q_n (k5 _ _ ?_)))
 refine sx_seq fun K8 k8 => ?_
 refine sx_seq fun K9 k9 => sx_region ?_
 refine mv rfl rfl (sp rfl (px_lt rfl rfl) ?_)
 refine wl_nil (q_n (k9 _ _ ?_))
 refine sx_condP rfl (fun h5620 => ?_) (fun h5620 => ?_)
 ·
  refine sx_seq fun K10 k10 => sx_region ?_
  refine av rfl rfl (wl_nil (q_n (k10 _ _ ?_)))
  refine sx_retc ?_
  refine q_r (sx_ret1 Tryd.results3 rfl ?_)
  exact ⟨rfl, (cb2.t c7)⟩
 replace hr7 := hr7.resolve_left h5620
 refine sx_skip ?_
 refine q_n (k8 _ _ ?_)
 refine sx_seq fun K11 k11 => sx_region ?_
 have f12 := fb2.ext c7
 refine sp rfl (px_load rfl (f12.loadA (vs := [.string f1, .string t1, .bool n1, v1, .int .i64 p1]) (look_lit rfl) Tryd.isAgg28 Tryd.sizeOf28)) ?_
 have f13 := f6.ext c7
 refine sx_call rfl rfl Tryd.call6 (c_toRate f13 (by omega)) (fun v14 w14 p14 => ?_)
 obtain ⟨s14, rfl, os_14, c14⟩ := p14
 have zw14 := c14.size
 refine sx_call rfl rfl Tryd.call5 (c_sRateText os_14.sv (by omega)) (fun v15 w15 p15 => ?_)
 obtain ⟨rfl, c15⟩ := p15
 have zw15 := c15.size
 refine av rfl rfl (wl_nil (q_n (k11 _ _ ?_)))
 refine sx_seq fun K16 k16 => sx_region ?_
 have f18 := (f12.ext c14).ext c15
 refine sp rfl (px_load rfl (f18.loadA (vs := [.string f1, .string t1, .bool n1, v1, .int .i64 p1]) (look_lit rfl) Tryd.isAgg28 Tryd.sizeOf28)) ?_
 have f20 := (f13.ext c14).ext c15
 refine sx_call rfl rfl Tryd.call6 (c_toRate f20 (by omega)) (fun v21 w21 p21 => ?_)
 obtain ⟨s21, rfl, os_21, c21⟩ := p21
 have zw21 := c21.size
 refine sx_alloc [.string (⟨#[]⟩), .string (⟨#[]⟩), .bool false, (.slice none 0 0), .int .i64 0] rfl Tryd.zeroValue35 rfl (fun b22 w23 eb22 sb22 fb22 cb22 => ?_)
 have zw23 := cb22.size
 have f25 := os_21.ext cb22
 refine sx_store (vs := [.string f1, .string t1, .bool n1, s21, .int .i64 p1]) rfl rfl fb22 rfl Tryd.sizeOf35 (nbl rfl) (one_cons rfl (one_cons rfl (one_cons rfl (one_cons f25.one (o1 rfl))))) (fun w24 sw24 fw24 cw24 => ?_)
 have zw24 := cw24.size
 have gw24 : Blk w24 b22 [.string f1, .string t1, .bool n1, s21, .int .i64 p1] 35 := fw24
 refine wl_nil (q_n (k16 _ _ ?_))
 refine sx_sub (Sub.c 1 rfl (.c 2 rfl (.c 4 rfl (.c 5 rfl .nil)))) ?_
 refine sx_seq fun K26 k26 => sx_region ?_
 refine sp rfl (px_load rfl (gw24.loadA (vs := [.string f1, .string t1, .bool n1, s21, .int .i64 p1]) (look_lit rfl) Tryd.isAgg35 Tryd.sizeOf35)) ?_
 have f27 := hG0.ext cb2
 have f32 := ((((f27.ext c7).ext c14).ext c15).ext c21).ext cb22
 have f33 := f32.chg cw24 (by omega)
 have f34 := hGT.ext cb2
 have f39 := ((((f34.ext c7).ext c14).ext c15).ext c21).ext cb22
 have f40 := f39.chg cw24 (by omega)
 have f41 := f25.chg cw24 (by omega)
 refine sx_call rfl rfl Tryd.call7 (c_iRateText f33 f40 f41.sv (by omega)) (fun v42 w42 p42 => ?_)
 obtain ⟨rfl, c42⟩ := p42
 have zw42 := c42.size
 refine av rfl rfl (wl_nil (q_n (k26 _ _ ?_)))
 refine sx_seq fun K43 k43 => ?_
 refine sx_seq fun K44 k44 => sx_region ?_
 refine mv rfl rfl (mv rfl rfl (sp rfl (px_neS rfl rfl) ?_))
 refine wl_nil (q_n (k44 _ _ ?_))
 have h5626 : ¬ (ratT f1 t1 n1 z1 p1 ≠ ratT f1 t1 n1 z1 p1) := by simp [mk_length]
 refine sx_condPF rfl h5626 ?_
 refine sx_skip ?_
 refine q_n (k43 _ _ ?_)
 refine sx_seq fun K45 k45 => ?_
 refine sx_seq fun K46 k46 => ?_
 have f47 := f33.ext c42
 have f48 := f40.ext c42
 have f50 := (f18.ext c21).ext cb22
 have f51 := f50.chg cw24 (by omega)
 have f52 := f51.ext c42
 have f53 := gw24.ext c42
 have f55 := (f20.ext c21).ext cb22
 have f56 := f55.chg cw24 (by omega)
 have f60 := ((os_14.ext c15).ext c21).ext cb22
 have f61 := f60.chg cw24 (by omega)
 have f62 := f61.ext c42
 refine dx_region (fun w' => Chg 0 0 w42 w') (by kernel_rfl) (Chg.zero (Chg.drew _)) ?_
 have d64 := Chg.drew w42
 have s64 : Chg 0 0 w42 (World.drew w42) := Chg.zero (Chg.drew _)
 have y64 : (World.drew w42).heap.size = w42.heap.size := rfl
 generalize World.drew w42 = w64 at *
 have zw64 := d64.size
 refine dt 0 rfl rfl rfl rfl s64 (fun _ hS => px_load rfl ((f53.chg hS (by omega)).loadA (vs := [.string f1, .string t1, .bool n1, s21, .int .i64 p1]) (look_lit rfl) Tryd.isAgg35 Tryd.sizeOf35)) ?_
 refine dt 1 rfl rfl rfl rfl s64 (fun _ hS => px_load rfl ((f52.chg hS (by omega)).loadA (vs := [.string f1, .string t1, .bool n1, v1, .int .i64 p1]) (look_lit rfl) Tryd.isAgg28 Tryd.sizeOf28)) ?_
 refine dx_eff 2 rfl (by kernel_rfl) ?_
 have f65 := (f56.ext c42).ext d64
 refine sx_call rfl rfl Tryd.call6 (c_toRate f65 (by omega)) (fun v66 w66 p66 => ?_)
 obtain ⟨s66, rfl, os_66, c66⟩ := p66
 have zw66 := c66.size
 have s67 : Chg 0 0 w42 w66 := (d64.t c66)
 refine wl_nil ?_
 refine dx_next s67 ?_
 refine dx_eff 3 rfl (by kernel_rfl) ?_
 have f69 := ((f41.ext c42).ext d64).ext c66
 refine sx_call rfl rfl Tryd.call8 (c_eqRate f69.sv os_66.sv (by omega)) (fun v70 w70 p70 => ?_)
 obtain ⟨rfl, c70⟩ := p70
 have zw70 := c70.size
 have s71 : Chg 0 0 w42 w70 := ((d64.t c66).t c70)
 refine wl_nil ?_
 refine dx_next s71 ?_
 refine dt 4 rfl rfl rfl rfl s71 (fun _ hS => px_notP rfl) ?_
 refine dx_done (by kernel_rfl) ?_
 refine q_n (k46 _ _ ?_)
 refine sx_sub (Sub.c 2 rfl (.c 26 rfl .nil)) ?_
 have h5629 : ¬ (¬ (f1 = f1 ∧ t1 = t1 ∧ n1 = n1 ∧ z1 = z1 ∧ p1 = p1)) := by simp [mk_length]
 refine sx_condPF rfl h5629 ?_
 refine sx_skip ?_
 refine q_n (k45 _ _ ?_)
 refine sx_seq fun K72 k72 => sx_region ?_
 refine av rfl rfl (wl_nil (q_n (k72 _ _ ?_)))
 refine sx_retc ?_
 refine sx_ret1 Tryd.results3 rfl ?_
 have q73 := Chg.step (l := 0) (h := 0) (Chg.zero (l := 0) (h := 0) (((((cb2.t c7).t c14).t c15).t c21).t cb22)) cw24 (by omega)
 have q74 := Chg.step (l := 0) (h := 0) q73 (((c42.t d64).t c66).t c70) (by omega)
 exact ⟨rfl, q74⟩

end Go.Proofs.YtadmofdamcajkaaDoor
