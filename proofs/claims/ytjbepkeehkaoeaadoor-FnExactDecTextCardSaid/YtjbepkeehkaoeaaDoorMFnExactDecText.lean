/- Contracts of functions of the program: what each call returns, and that it changes nothing that was. Conditions: as each says. -/
import Derived.Test.YtjbepkeehkaoeaaDoorTy
import Derived.Test.YtjbepkeehkaoeaaDoorNatI
import Derived.Test.YtjbepkeehkaoeaaDoorSxD
import Derived.Test.YtjbepkeehkaoeaaDoorSxT
import Derived.Test.YtjbepkeehkaoeaaDoorTab
import Derived.Test.YtjbepkeehkaoeaaDoorLay
import Derived.Test.YtjbepkeehkaoeaaDoorLayB
import Derived.Test.YtjbepkeehkaoeaaDoorNatX
import Derived.Test.YtjbepkeehkaoeaaDoorSxP
import Derived.Test.YtjbepkeehkaoeaaDoorL0
set_option linter.unusedVariables false
set_option linter.unusedSimpArgs false
namespace Go.Proofs.YtjbepkeehkaoeaaDoor
open Go Go.RowKit
set_option maxRecDepth 100000
set_option maxHeartbeats 1000000
theorem law_DecText {w : World} {n1 : Bool} {v1 : Value} {lv1 uv1 : Nat} {z1 : List Int} {p1 : Int} (hGT : GlobP w) (hv1 : Sl w lv1 uv1 v1 (z1)) (bz1 : z1.length ≤ 9223372036854775807) :
  Ret Tryd.prog 3 [.agg #[.bool n1, v1, .int .i64 p1]] w fun v w' => v = .bool (true) ∧ Chg 0 0 w w' := by
 have hGTl := hGT.lt
 have hv10 := hv1.fit
 refine sx_enter Tryd.func3 rfl Tryd.ntmps3 (nbl rfl) ?_
 refine sx_seq fun K1 k1 => sx_region ?_
 refine sx_box [.bool n1, v1, .int .i64 p1] rfl rfl rfl (fun b2 w3 eb2 sb2 fb2 cb2 => ?_)
 have zw3 := cb2.size
 refine av rfl rfl (wl_nil (q_n (k1 _ _ ?_)))
 refine sx_seq fun K4 k4 => sx_region ?_
 refine av rfl rfl (wl_nil (q_n (k4 _ _ ?_)))
 refine sx_seq fun K5 k5 => sx_region ?_
 refine sp rfl (px_load rfl (fb2.loadA (vs := [.bool n1, v1, .int .i64 p1]) (look_lit rfl) Tryd.isAgg26 Tryd.sizeOf26)) ?_
 refine mv rfl rfl ?_
 have f6 := hv10.ext cb2
 refine sx_call rfl rfl Tryd.call5 (c_szDec f6 (by omega) (by omega)) (fun v7 w7 p7 => ?_)
 obtain ⟨r7, rfl, hr7, c7⟩ := p7
 have zw7 := c7.size
 refine av rfl rfl (wl_nil (q_n (k5 _ _ ?_)))
 refine sx_seq fun K8 k8 => ?_
 refine sx_seq fun K9 k9 => sx_region ?_
 refine mv rfl rfl (sp rfl (px_lt rfl rfl) ?_)
 refine wl_nil (q_n (k9 _ _ ?_))
 refine sx_condP rfl (fun h4310 => ?_) (fun h4310 => ?_)
 ·
  refine sx_seq fun K10 k10 => sx_region ?_
  refine av rfl rfl (wl_nil (q_n (k10 _ _ ?_)))
  refine sx_retc ?_
  refine q_r (sx_ret1 Tryd.results3 rfl ?_)
  exact ⟨rfl, (cb2.t c7)⟩
 replace hr7 := hr7.resolve_left h4310
 refine sx_skip ?_
 refine q_n (k8 _ _ ?_)
 refine sx_seq fun K11 k11 => sx_region ?_
 have f12 := fb2.ext c7
 refine sp rfl (px_load rfl (f12.loadA (vs := [.bool n1, v1, .int .i64 p1]) (look_lit rfl) Tryd.isAgg26 Tryd.sizeOf26)) ?_
 have f13 := f6.ext c7
 refine sx_call rfl rfl Tryd.call7 (c_toDec f13 (by omega)) (fun v14 w14 p14 => ?_)
 obtain ⟨s114, rfl, os1_14, c14⟩ := p14
 have zw14 := c14.size
 refine sx_call rfl rfl Tryd.call6 (c_sDecText os1_14.sv (by omega)) (fun v15 w15 p15 => ?_)
 obtain ⟨rfl, hsz15, c15⟩ := p15
 have zw15 := c15.size
 refine av rfl rfl (wl_nil (q_n (k11 _ _ ?_)))
 refine sx_seq fun K16 k16 => sx_region ?_
 have f18 := (f12.ext c14).ext c15
 refine sp rfl (px_load rfl (f18.loadA (vs := [.bool n1, v1, .int .i64 p1]) (look_lit rfl) Tryd.isAgg26 Tryd.sizeOf26)) ?_
 have f20 := (f13.ext c14).ext c15
 refine sx_call rfl rfl Tryd.call7 (c_toDec f20 (by omega)) (fun v21 w21 p21 => ?_)
 obtain ⟨s121, rfl, os1_21, c21⟩ := p21
 have zw21 := c21.size
 refine sx_alloc [.bool false, (.slice none 0 0), .int .i64 0] rfl Tryd.zeroValue31 rfl (fun b22 w23 eb22 sb22 fb22 cb22 => ?_)
 have zw23 := cb22.size
 have f25 := os1_21.ext cb22
 refine sx_store (vs := [.bool n1, s121, .int .i64 p1]) rfl rfl fb22 rfl Tryd.sizeOf31 (nbl rfl) (one_cons rfl (one_cons f25.one (o1 rfl))) (fun w24 sw24 fw24 cw24 => ?_)
 have zw24 := cw24.size
 have gw24 : Blk w24 b22 [.bool n1, s121, .int .i64 p1] 31 := fw24
 refine wl_nil (q_n (k16 _ _ ?_))
 refine sx_sub (Sub.c 1 rfl (.c 2 rfl (.c 4 rfl (.c 5 rfl .nil)))) ?_
 refine sx_seq fun K26 k26 => sx_region ?_
 refine sp rfl (px_load rfl (gw24.loadA (vs := [.bool n1, s121, .int .i64 p1]) (look_lit rfl) Tryd.isAgg31 Tryd.sizeOf31)) ?_
 have f27 := hGT.ext cb2
 have f32 := ((((f27.ext c7).ext c14).ext c15).ext c21).ext cb22
 have f33 := f32.chg cw24 (by omega)
 have f34 := f25.chg cw24 (by omega)
 refine sx_call rfl rfl Tryd.call8 (c_iDecText f33 f34.sv (by omega)) (fun v35 w35 p35 => ?_)
 obtain ⟨rfl, hsz35, c35⟩ := p35
 have zw35 := c35.size
 refine av rfl rfl (wl_nil (q_n (k26 _ _ ?_)))
 refine sx_seq fun K36 k36 => ?_
 refine sx_seq fun K37 k37 => sx_region ?_
 refine mv rfl rfl (mv rfl rfl (sp rfl (px_neS rfl rfl) ?_))
 refine wl_nil (q_n (k37 _ _ ?_))
 have h4316 : ¬ (decT n1 z1 p1 ≠ decT n1 z1 p1) := fun h => h rfl
 refine sx_condPF rfl h4316 ?_
 refine sx_skip ?_
 refine q_n (k36 _ _ ?_)
 refine sx_seq fun K38 k38 => ?_
 refine sx_seq fun K39 k39 => ?_
 have f40 := f33.ext c35
 have f42 := (f18.ext c21).ext cb22
 have f43 := f42.chg cw24 (by omega)
 have f44 := f43.ext c35
 have f45 := gw24.ext c35
 have f47 := (f20.ext c21).ext cb22
 have f48 := f47.chg cw24 (by omega)
 have f52 := ((os1_14.ext c15).ext c21).ext cb22
 have f53 := f52.chg cw24 (by omega)
 have f54 := f53.ext c35
 refine dx_region (fun w' => Chg 0 0 w35 w') (by kernel_rfl) (Chg.zero (Chg.drew _)) ?_
 have d56 := Chg.drew w35
 have s56 : Chg 0 0 w35 (World.drew w35) := Chg.zero (Chg.drew _)
 have y56 : (World.drew w35).heap.size = w35.heap.size := rfl
 generalize World.drew w35 = w56 at *
 have zw56 := d56.size
 refine dt 0 rfl rfl rfl rfl s56 (fun _ hS => px_load rfl ((f45.chg hS (by omega)).loadA (vs := [.bool n1, s121, .int .i64 p1]) (look_lit rfl) Tryd.isAgg31 Tryd.sizeOf31)) ?_
 refine dt 1 rfl rfl rfl rfl s56 (fun _ hS => px_load rfl ((f44.chg hS (by omega)).loadA (vs := [.bool n1, v1, .int .i64 p1]) (look_lit rfl) Tryd.isAgg26 Tryd.sizeOf26)) ?_
 refine dx_eff 2 rfl (by kernel_rfl) ?_
 have f57 := (f48.ext c35).ext d56
 refine sx_call rfl rfl Tryd.call7 (c_toDec f57 (by omega)) (fun v58 w58 p58 => ?_)
 obtain ⟨s158, rfl, os1_58, c58⟩ := p58
 have zw58 := c58.size
 have s59 : Chg 0 0 w35 w58 := (d56.t c58)
 refine wl_nil ?_
 refine dx_next s59 ?_
 refine dx_eff 3 rfl (by kernel_rfl) ?_
 have f61 := ((f34.ext c35).ext d56).ext c58
 refine sx_call rfl rfl Tryd.call9 (c_eqDec f61.sv os1_58.sv (by omega)) (fun v62 w62 p62 => ?_)
 obtain ⟨rfl, c62⟩ := p62
 have zw62 := c62.size
 have s63 : Chg 0 0 w35 w62 := ((d56.t c58).t c62)
 refine wl_nil ?_
 refine dx_next s63 ?_
 refine dt 4 rfl rfl rfl rfl s63 (fun _ hS => px_notP rfl) ?_
 refine dx_done (by kernel_rfl) ?_
 refine q_n (k39 _ _ ?_)
 refine sx_sub (Sub.c 2 rfl (.c 26 rfl .nil)) ?_
 have h4319 : ¬ (¬ (n1 = n1 ∧ z1 = z1 ∧ p1 = p1)) := by simp [mk_length]
 refine sx_condPF rfl h4319 ?_
 refine sx_skip ?_
 refine q_n (k38 _ _ ?_)
 refine sx_seq fun K64 k64 => sx_region ?_
 refine av rfl rfl (wl_nil (q_n (k64 _ _ ?_)))
 refine sx_retc ?_
 refine sx_ret1 Tryd.results3 rfl ?_
 have q65 := Chg.step (l := 0) (h := 0) (Chg.zero (l := 0) (h := 0) (((((cb2.t c7).t c14).t c15).t c21).t cb22)) cw24 (by omega)
 have q66 := Chg.step (l := 0) (h := 0) q65 (((c35.t d56).t c58).t c62) (by omega)
 exact ⟨rfl, q66⟩

end Go.Proofs.YtjbepkeehkaoeaaDoor
