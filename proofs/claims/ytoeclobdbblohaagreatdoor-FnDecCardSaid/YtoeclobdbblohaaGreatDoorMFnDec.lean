/- Contracts of functions of the program: what each call returns, and that it changes nothing that was. Conditions: as each says. -/
import Derived.Test.YtoeclobdbblohaaGreatDoorTy
import Derived.Test.YtoeclobdbblohaaGreatDoorNatJ
import Derived.Test.YtoeclobdbblohaaGreatDoorSxB
import Derived.Test.YtoeclobdbblohaaGreatDoorPair
import Derived.Test.YtoeclobdbblohaaGreatDoorSxW
import Derived.Test.YtoeclobdbblohaaGreatDoorNatI
import Derived.Test.YtoeclobdbblohaaGreatDoorTab
import Derived.Test.YtoeclobdbblohaaGreatDoorLay
import Derived.Test.YtoeclobdbblohaaGreatDoorLayB
import Derived.Test.YtoeclobdbblohaaGreatDoorNatX
import Derived.Test.YtoeclobdbblohaaGreatDoorSxP
import Derived.Test.YtoeclobdbblohaaGreatDoorD0
import Derived.Test.YtoeclobdbblohaaGreatDoorD1
import Derived.Test.YtoeclobdbblohaaGreatDoorD2
import Derived.Test.YtoeclobdbblohaaGreatDoorD3
import Derived.Test.YtoeclobdbblohaaGreatDoorNatDx
set_option linter.unusedVariables false
set_option linter.unusedSimpArgs false
namespace Go.Proofs.YtoeclobdbblohaaGreatDoor
open Go Go.RowKit
set_option maxRecDepth 100000
set_option maxHeartbeats 1000000
theorem law_FnDec {w : World} {vb : Value} {lvb uvb : Nat} {bs : List Int} (hGT : GlobP w) (hvb : SlB w lvb uvb vb (bs)) (hb8 : ∀ j, j < bs.length → 0 ≤ bs.getD j 0 ∧ bs.getD j 0 ≤ 255) (hbs : bs.length ≤ 9223372036854775807) :
  Ret Tryz.prog 3 [vb] w fun v w' => v = .bool (true) ∧ Chg 0 0 w w' := by
 have hGTl := hGT.lt
 have hvb0 := hvb.fit
 refine sx_enter Tryz.func3 rfl Tryz.ntmps3 (nbl rfl) ?_
 refine sx_seq fun K1 k1 => sx_region ?_
 refine av rfl rfl (wl_nil (q_n (k1 _ _ ?_)))
 refine sx_seq fun K2 k2 => ?_
 refine sx_seq fun K3 k3 => sx_region ?_
 refine mv rfl rfl (sp rfl (px_len rfl Tryz.underlying22 hvb0) ?_)
 refine sp rfl (px_gt rfl rfl) ?_
 refine wl_nil (q_n (k3 _ _ ?_))
 refine sx_condP rfl (fun h376 => ?_) (fun h376 => ?_)
 ·
  refine sx_seq fun K4 k4 => sx_region ?_
  refine av rfl rfl (wl_nil (q_n (k4 _ _ ?_)))
  refine sx_retc ?_
  refine q_r (sx_ret1 Tryz.results3 rfl ?_)
  exact ⟨rfl, (Chg.refl 0 0 _)⟩
 refine sx_skip ?_
 refine q_n (k2 _ _ ?_)
 refine sx_seq fun K5 k5 => sx_region ?_
 refine mv rfl rfl (sx_call rfl rfl Tryz.call5 (c_MakeDecs hvb0 (by assumption) (by omega)) (fun v6 w6 p6 => ?_))
 obtain ⟨s6, x6, p6, t6, y6, q6, rfl, os_6, ot_6, hx6, hp6, c6⟩ := p6
 have zw6 := c6.size
 have hd1 := (DOk_iff (x := x6) (p := p6)).2 ⟨by omega, by omega⟩
 have hd2 := (DOk_iff (x := y6) (p := q6)).2 ⟨by omega, by omega⟩
 have hbx := hx6
 have hbp := hp6
 have hf1 := dRat_form hd1 (by omega)
 have hf2 := dRat_form hd2 (by omega)
 have hk1 := hf1.2.1
 have hk2 := hf2.2.1
 have hk1l := hf1.2.2.1
 have hk2l := hf2.2.2.1
 have hSl := (DOk_iff.1 (sub_dok (y := y6) hbx.1 hbp.1 hbp.2)).1
 refine mv rfl rfl (sp rfl (px_ex2 rfl rfl) ?_)
 refine sp rfl (px_ex2 rfl rfl) ?_
 refine sx_alloc [.bool false, (.slice none 0 0), .int .i64 0] rfl Tryz.zeroValue27 rfl (fun b7 w8 eb7 sb7 fb7 cb7 => ?_)
 have zw8 := cb7.size
 refine sx_alloc [.bool false, (.slice none 0 0), .int .i64 0] rfl Tryz.zeroValue27 rfl (fun b9 w10 eb9 sb9 fb9 cb9 => ?_)
 have zw10 := cb9.size
 have f12 := fb7.ext cb9
 have f13 := os_6.ext cb7
 have f14 := f13.ext cb9
 refine sx_store (vs := [.bool (ng x6), s6, .int .i64 p6]) rfl rfl f12 rfl Tryz.sizeOf27 (nbl rfl) (one_cons rfl (one_cons f14.one (o1 rfl))) (fun w11 sw11 fw11 cw11 => ?_)
 have zw11 := cw11.size
 have gw11 : Blk w11 b7 [.bool (ng x6), s6, .int .i64 p6] 27 := fw11
 have f16 := fb9.chg cw11 (by omega)
 have f17 := ot_6.ext cb7
 have f18 := f17.ext cb9
 have f19 := f18.chg cw11 (by omega)
 refine sx_store (vs := [.bool (ng y6), t6, .int .i64 q6]) rfl rfl f16 rfl Tryz.sizeOf27 (nbl rfl) (one_cons rfl (one_cons f19.one (o1 rfl))) (fun w15 sw15 fw15 cw15 => ?_)
 have zw15 := cw15.size
 have gw15 : Blk w15 b9 [.bool (ng y6), t6, .int .i64 q6] 27 := fw15
 refine wl_nil (q_n (k5 _ _ ?_))
 refine sx_seq fun K20 k20 => sx_region ?_
 have f21 := gw11.chg cw15 (by omega)
 refine sp rfl (px_load rfl (f21.loadA (vs := [.bool (ng x6), s6, .int .i64 p6]) (look_lit rfl) Tryz.isAgg27 Tryz.sizeOf27)) ?_
 have f23 := (hGT.ext c6).ext cb7
 have f24 := f23.ext cb9
 have f25 := f24.chg cw11 (by omega)
 have f26 := f25.chg cw15 (by omega)
 have f27 := f14.chg cw11 (by omega)
 have f28 := f27.chg cw15 (by omega)
 refine sx_call rfl rfl Tryz.call7 (c_iDecText f26 f28 (by omega)) (fun v29 w29 p29 => ?_)
 obtain ⟨rfl, hsz29, c29⟩ := p29
 have zw29 := c29.size
 have f30 := f26.ext c29
 refine sx_call rfl rfl Tryz.call6 (c_iTextDecD f30 (by assumption)) (fun v31 w31 p31 => ?_)
 obtain ⟨s31, rfl, os_31, c31⟩ := p31
 have zw31 := c31.size
 refine mv rfl rfl (sp rfl (px_ex2 rfl rfl) ?_)
 refine sp rfl (px_ex2 rfl rfl) ?_
 refine sx_alloc [.bool false, (.slice none 0 0), .int .i64 0] rfl Tryz.zeroValue27 rfl (fun b32 w33 eb32 sb32 fb32 cb32 => ?_)
 have zw33 := cb32.size
 have f35 := os_31.ext cb32
 refine sx_store (vs := [.bool (ng (x6)), s31, .int .i64 p6]) rfl rfl fb32 rfl Tryz.sizeOf27 (nbl rfl) (one_cons rfl (one_cons f35.one (o1 rfl))) (fun w34 sw34 fw34 cw34 => ?_)
 have zw34 := cw34.size
 have gw34 : Blk w34 b32 [.bool (ng (x6)), s31, .int .i64 p6] 27 := fw34
 refine av rfl rfl (wl_nil (q_n (k20 _ _ ?_)))
 refine sx_sub (Sub.c 2 rfl (.c 3 rfl (.c 4 rfl (.c 5 rfl (.c 6 rfl .nil))))) ?_
 refine sx_seq fun K36 k36 => sx_region ?_
 have f39 := ((f21.ext c29).ext c31).ext cb32
 have f40 := f39.chg cw34 (by omega)
 refine sp rfl (px_load rfl (f40.loadA (vs := [.bool (ng x6), s6, .int .i64 p6]) (look_lit rfl) Tryz.isAgg27 Tryz.sizeOf27)) ?_
 have f43 := ((f28.ext c29).ext c31).ext cb32
 have f44 := f43.chg cw34 (by omega)
 refine sx_call rfl rfl Tryz.call8 (c_iDecLowD f44 (by assumption)) (fun v45 w45 p45 => ?_)
 obtain ⟨s45, y45, q45, rfl, os_45, hL45, hq45, hv45, c45⟩ := p45
 have zw45 := c45.size
 have hLL := hL45
 have hLq := hq45
 have hLv := hv45
 have hLl := (DOk_iff.1 hLL).1
 have hAl := hbx.1
 rw [← hLv] at hAl
 refine sx_alloc [.bool false, (.slice none 0 0), .int .i64 0] rfl Tryz.zeroValue27 rfl (fun b46 w47 eb46 sb46 fb46 cb46 => ?_)
 have zw47 := cb46.size
 have f49 := os_45.ext cb46
 refine sx_store (vs := [.bool (ng (y45)), s45, .int .i64 q45]) rfl rfl fb46 rfl Tryz.sizeOf27 (nbl rfl) (one_cons rfl (one_cons f49.one (o1 rfl))) (fun w48 sw48 fw48 cw48 => ?_)
 have zw48 := cw48.size
 have gw48 : Blk w48 b46 [.bool (ng (y45)), s45, .int .i64 q45] 27 := fw48
 refine wl_nil (q_n (k36 _ _ ?_))
 refine sx_seq fun K50 k50 => sx_region ?_
 refine sp rfl (px_load rfl (gw48.loadA (vs := [.bool (ng (y45)), s45, .int .i64 q45]) (look_lit rfl) Tryz.isAgg27 Tryz.sizeOf27)) ?_
 refine sp rfl (px_field rfl xfld27x1) ?_
 have f52 := (f40.ext c45).ext cb46
 have f53 := f52.chg cw48 (by omega)
 refine sp rfl (px_load rfl (f53.load1 rfl Tryz.isAgg3)) ?_
 have f54 := f49.chg cw48 (by omega)
 refine sx_call rfl rfl Tryz.call9 (c_iDecAtD f54.sv (by assumption) (by omega) (by rw [hLv]; assumption)) (fun v55 w55 p55 => ?_)
 obtain ⟨s55, rfl, os_55, c55⟩ := p55
 have zw55 := c55.size
 refine mv rfl rfl (sp rfl (px_ex2 rfl rfl) ?_)
 refine sp rfl (px_ex2 rfl rfl) ?_
 refine sx_alloc [.bool false, (.slice none 0 0), .int .i64 0] rfl Tryz.zeroValue27 rfl (fun b56 w57 eb56 sb56 fb56 cb56 => ?_)
 have zw57 := cb56.size
 have f59 := os_55.ext cb56
 refine sx_store (vs := [.bool (ng ((y45) * tenI (p6 - q45))), s55, .int .i64 p6]) rfl rfl fb56 rfl Tryz.sizeOf27 (nbl rfl) (one_cons rfl (one_cons f59.one (o1 rfl))) (fun w58 sw58 fw58 cw58 => ?_)
 have zw58 := cw58.size
 have gw58 : Blk w58 b56 [.bool (ng ((y45) * tenI (p6 - q45))), s55, .int .i64 p6] 27 := fw58
 refine av rfl rfl (wl_nil (q_n (k50 _ _ ?_)))
 refine sx_sub (Sub.c 2 rfl (.c 3 rfl (.c 4 rfl (.c 5 rfl (.c 6 rfl (.c 7 rfl (.c 8 rfl (.c 9 rfl .nil)))))))) ?_
 refine sx_seq fun K60 k60 => ?_
 refine sx_seq fun K61 k61 => ?_
 have f63 := (f30.ext c31).ext cb32
 have f64 := f63.chg cw34 (by omega)
 have f66 := (f64.ext c45).ext cb46
 have f67 := f66.chg cw48 (by omega)
 have f69 := (f67.ext c55).ext cb56
 have f70 := f69.chg cw58 (by omega)
 have f72 := (f53.ext c55).ext cb56
 have f73 := f72.chg cw58 (by omega)
 have f76 := ((gw15.ext c29).ext c31).ext cb32
 have f77 := f76.chg cw34 (by omega)
 have f79 := (f77.ext c45).ext cb46
 have f80 := f79.chg cw48 (by omega)
 have f82 := (f80.ext c55).ext cb56
 have f83 := f82.chg cw58 (by omega)
 have f85 := (gw34.ext c45).ext cb46
 have f86 := f85.chg cw48 (by omega)
 have f88 := (f86.ext c55).ext cb56
 have f89 := f88.chg cw58 (by omega)
 have f91 := (gw48.ext c55).ext cb56
 have f92 := f91.chg cw58 (by omega)
 have f94 := (hvb0.ext c6).ext cb7
 have f95 := f94.ext cb9
 have f96 := f95.chg cw11 (by omega)
 have f97 := f96.chg cw15 (by omega)
 have f100 := ((f97.ext c29).ext c31).ext cb32
 have f101 := f100.chg cw34 (by omega)
 have f103 := (f101.ext c45).ext cb46
 have f104 := f103.chg cw48 (by omega)
 have f106 := (f104.ext c55).ext cb56
 have f107 := f106.chg cw58 (by omega)
 have f109 := (f44.ext c45).ext cb46
 have f110 := f109.chg cw48 (by omega)
 have f112 := (f110.ext c55).ext cb56
 have f113 := f112.chg cw58 (by omega)
 have f114 := f19.chg cw15 (by omega)
 have f117 := ((f114.ext c29).ext c31).ext cb32
 have f118 := f117.chg cw34 (by omega)
 have f120 := (f118.ext c45).ext cb46
 have f121 := f120.chg cw48 (by omega)
 have f123 := (f121.ext c55).ext cb56
 have f124 := f123.chg cw58 (by omega)
 have f125 := f35.chg cw34 (by omega)
 have f127 := (f125.ext c45).ext cb46
 have f128 := f127.chg cw48 (by omega)
 have f130 := (f128.ext c55).ext cb56
 have f131 := f130.chg cw58 (by omega)
 have f133 := (f54.ext c55).ext cb56
 have f134 := f133.chg cw58 (by omega)
 have f135 := f59.chg cw58 (by omega)
 refine dx_region (fun w' => Chg 0 0 w58 w') (by kernel_rfl) (Chg.zero (Chg.drew _)) ?_
 have d136 := Chg.drew w58
 have s136 : Chg 0 0 w58 (World.drew w58) := Chg.zero (Chg.drew _)
 have y136 : (World.drew w58).heap.size = w58.heap.size := rfl
 generalize World.drew w58 = w136 at *
 have zw136 := d136.size
 refine dt 0 rfl rfl rfl rfl s136 (fun _ hS => px_move rfl) ?_
 refine dt 1 rfl rfl rfl rfl s136 (fun _ hS => px_not rfl) ?_
 refine dt 2 rfl rfl rfl rfl s136 (fun _ hS => px_move rfl) ?_
 refine dx_takeG 3 rfl rfl rfl rfl rfl rfl (by kernel_rfl) (by kernel_rfl) (by kernel_rfl) s136 (fun _ hS => px_load rfl ((f89.chg hS (by omega)).loadA (vs := [.bool (ng (x6)), s31, .int .i64 p6]) (look_lit rfl) Tryz.isAgg27 Tryz.sizeOf27)) ?_
 refine dx_takeG 4 rfl rfl rfl rfl rfl rfl (by kernel_rfl) (by kernel_rfl) (by kernel_rfl) s136 (fun _ hS => px_load rfl ((f73.chg hS (by omega)).loadA (vs := [.bool (ng x6), s6, .int .i64 p6]) (look_lit rfl) Tryz.isAgg27 Tryz.sizeOf27)) ?_
 refine dx_eff 5 rfl (by kernel_rfl) ?_
 refine sx_guardT rfl rfl rfl ?_
 have f137 := f131.ext d136
 have f138 := f113.ext d136
 refine sx_call rfl rfl Tryz.call10 (c_iDecCmp f137.sv f138 (by omega)) (fun v139 w139 p139 => ?_)
 obtain ⟨rfl, c139⟩ := p139
 have zw139 := c139.size
 have s140 : Chg 0 0 w58 w139 := (d136.t c139)
 refine wl_nil ?_
 refine dx_next s140 ?_
 refine dx_takeG 6 rfl rfl rfl rfl rfl rfl (by kernel_rfl) (by kernel_rfl) (by kernel_rfl) s140 (fun _ hS => px_ne rfl rfl) ?_
 refine dt 7 rfl rfl rfl rfl s140 (fun _ hS => px_pick rfl rfl) ?_
 refine dt 8 rfl rfl rfl rfl s140 (fun _ hS => px_move rfl) ?_
 have h383 : ¬ ((dCmp (ng (x6)) (dg (x6).natAbs) p6 (ng x6) (dg (x6).natAbs) p6 : Int) ≠ 0) := Decidable.not_not.2 (dCmp_self (by assumption))
 refine dx_tmpPF (t := 49) rfl h383 ?_
 refine dx_takeG 9 rfl rfl rfl rfl rfl rfl (by kernel_rfl) (by kernel_rfl) (by kernel_rfl) s140 (fun _ hS => px_field rfl xfld27x1) ?_
 refine dx_takeG 10 rfl rfl rfl rfl rfl rfl (by kernel_rfl) (by kernel_rfl) (by kernel_rfl) s140 (fun _ hS => px_load rfl ((f89.chg hS (by omega)).load1 rfl Tryz.isAgg3)) ?_
 refine dx_takeG 11 rfl rfl rfl rfl rfl rfl (by kernel_rfl) (by kernel_rfl) (by kernel_rfl) s140 (fun _ hS => px_field rfl xfld27x1) ?_
 refine dx_takeG 12 rfl rfl rfl rfl rfl rfl (by kernel_rfl) (by kernel_rfl) (by kernel_rfl) s140 (fun _ hS => px_load rfl ((f73.chg hS (by omega)).load1 rfl Tryz.isAgg3)) ?_
 refine dx_takeG 13 rfl rfl rfl rfl rfl rfl (by kernel_rfl) (by kernel_rfl) (by kernel_rfl) s140 (fun _ hS => px_ne rfl rfl) ?_
 refine dt 14 rfl rfl rfl rfl s140 (fun _ hS => px_pick rfl rfl) ?_
 refine dt 15 rfl rfl rfl rfl s140 (fun _ hS => px_move rfl) ?_
 have h383x1 : ¬ ((p6 : Int) ≠ p6) := fun h => h rfl
 refine dx_tmpPF (t := 56) rfl h383x1 ?_
 refine dx_takeG 16 rfl rfl rfl rfl rfl rfl (by kernel_rfl) (by kernel_rfl) (by kernel_rfl) s140 (fun _ hS => px_move rfl) ?_
 refine dx_takeG 17 rfl rfl rfl rfl rfl rfl (by kernel_rfl) (by kernel_rfl) (by kernel_rfl) s140 (fun _ hS => px_not rfl) ?_
 refine dt 18 rfl rfl rfl rfl s140 (fun _ hS => px_pick rfl rfl) ?_
 refine dt 19 rfl rfl rfl rfl s140 (fun _ hS => px_move rfl) ?_
 refine dx_takeG 20 rfl rfl rfl rfl rfl rfl (by kernel_rfl) (by kernel_rfl) (by kernel_rfl) s140 (fun _ hS => px_load rfl ((gw58.chg hS (by omega)).loadA (vs := [.bool (ng ((y45) * tenI (p6 - q45))), s55, .int .i64 p6]) (look_lit rfl) Tryz.isAgg27 Tryz.sizeOf27)) ?_
 refine dx_takeG 22 rfl rfl rfl rfl rfl rfl (by kernel_rfl) (by kernel_rfl) (by kernel_rfl) s140 (fun _ hS => px_load rfl ((f73.chg hS (by omega)).loadA (vs := [.bool (ng x6), s6, .int .i64 p6]) (look_lit rfl) Tryz.isAgg27 Tryz.sizeOf27)) ?_
 refine dx_eff 21 rfl (by kernel_rfl) ?_
 refine sx_guardT rfl rfl rfl ?_
 have f142 := (f70.ext d136).ext c139
 have f144 := (f135.ext d136).ext c139
 refine sx_call rfl rfl Tryz.call7 (c_iDecText f142 f144.sv (by omega)) (fun v145 w145 p145 => ?_)
 obtain ⟨rfl, hsz145, c145⟩ := p145
 have zw145 := c145.size
 have s146 : Chg 0 0 w58 w145 := ((d136.t c139).t c145)
 refine wl_nil ?_
 refine dx_next s146 ?_
 refine dx_eff 23 rfl (by kernel_rfl) ?_
 refine sx_guardT rfl rfl rfl ?_
 have f147 := f142.ext c145
 have f149 := (f138.ext c139).ext c145
 refine sx_call rfl rfl Tryz.call7 (c_iDecText f147 f149 (by omega)) (fun v150 w150 p150 => ?_)
 obtain ⟨rfl, hsz150, c150⟩ := p150
 have zw150 := c150.size
 have s151 : Chg 0 0 w58 w150 := (((d136.t c139).t c145).t c150)
 refine wl_nil ?_
 refine dx_next s151 ?_
 refine dx_takeG 24 rfl rfl rfl rfl rfl rfl (by kernel_rfl) (by kernel_rfl) (by kernel_rfl) s151 (fun _ hS => px_neS rfl rfl) ?_
 refine dt 25 rfl rfl rfl rfl s151 (fun _ hS => px_pick rfl rfl) ?_
 refine dt 26 rfl rfl rfl rfl s151 (fun _ hS => px_move rfl) ?_
 have h383x2 : ¬ (decT (ng ((y45) * tenI (p6 - q45))) (dg ((y45) * tenI (p6 - q45)).natAbs) p6 ≠ decT (ng x6) (dg (x6).natAbs) p6) := fun h => h (by rw [hLv])
 refine dx_tmpPF (t := 67) rfl h383x2 ?_
 refine dx_takeG 27 rfl rfl rfl rfl rfl rfl (by kernel_rfl) (by kernel_rfl) (by kernel_rfl) s151 (fun _ hS => px_field rfl xfld27x1) ?_
 refine dx_takeG 28 rfl rfl rfl rfl rfl rfl (by kernel_rfl) (by kernel_rfl) (by kernel_rfl) s151 (fun _ hS => px_load rfl ((f92.chg hS (by omega)).load1 rfl Tryz.isAgg3)) ?_
 refine dx_takeG 29 rfl rfl rfl rfl rfl rfl (by kernel_rfl) (by kernel_rfl) (by kernel_rfl) s151 (fun _ hS => px_field rfl xfld27x1) ?_
 refine dx_takeG 30 rfl rfl rfl rfl rfl rfl (by kernel_rfl) (by kernel_rfl) (by kernel_rfl) s151 (fun _ hS => px_load rfl ((f73.chg hS (by omega)).load1 rfl Tryz.isAgg3)) ?_
 refine dx_takeG 31 rfl rfl rfl rfl rfl rfl (by kernel_rfl) (by kernel_rfl) (by kernel_rfl) s151 (fun _ hS => px_gt rfl rfl) ?_
 refine dt 32 rfl rfl rfl rfl s151 (fun _ hS => px_pick rfl rfl) ?_
 refine dt 33 rfl rfl rfl rfl s151 (fun _ hS => px_move rfl) ?_
 have h383x3 : ¬ ((p6 : Int) < q45) := by omega
 refine dx_tmpPF (t := 74) rfl h383x3 ?_
 refine dx_takeG 34 rfl rfl rfl rfl rfl rfl (by kernel_rfl) (by kernel_rfl) (by kernel_rfl) s151 (fun _ hS => px_load rfl ((f92.chg hS (by omega)).loadA (vs := [.bool (ng (y45)), s45, .int .i64 q45]) (look_lit rfl) Tryz.isAgg27 Tryz.sizeOf27)) ?_
 refine dx_takeG 35 rfl rfl rfl rfl rfl rfl (by kernel_rfl) (by kernel_rfl) (by kernel_rfl) s151 (fun _ hS => px_load rfl ((f73.chg hS (by omega)).loadA (vs := [.bool (ng x6), s6, .int .i64 p6]) (look_lit rfl) Tryz.isAgg27 Tryz.sizeOf27)) ?_
 refine dx_eff 36 rfl (by kernel_rfl) ?_
 refine sx_guardT rfl rfl rfl ?_
 have f155 := (((f134.ext d136).ext c139).ext c145).ext c150
 have f156 := f149.ext c150
 refine sx_call rfl rfl Tryz.call10 (c_iDecCmp f155.sv f156 (by omega)) (fun v157 w157 p157 => ?_)
 obtain ⟨rfl, c157⟩ := p157
 have zw157 := c157.size
 have s158 : Chg 0 0 w58 w157 := ((((d136.t c139).t c145).t c150).t c157)
 refine wl_nil ?_
 refine dx_next s158 ?_
 refine dx_takeG 37 rfl rfl rfl rfl rfl rfl (by kernel_rfl) (by kernel_rfl) (by kernel_rfl) s158 (fun _ hS => px_ne rfl rfl) ?_
 refine dt 38 rfl rfl rfl rfl s158 (fun _ hS => px_pick rfl rfl) ?_
 refine dx_done (by kernel_rfl) ?_
 refine q_n (k61 _ _ ?_)
 refine sx_sub (Sub.c 2 rfl (.c 3 rfl (.c 4 rfl (.c 79 rfl .nil)))) ?_
 have h383x4 : ¬ ((dCmp (ng (y45)) (dg (y45).natAbs) q45 (ng x6) (dg (x6).natAbs) p6 : Int) ≠ 0) := Decidable.not_not.2 (dCmp_low (by assumption) hLL hLq.2 hLv)
 refine sx_condPF rfl h383x4 ?_
 refine sx_skip ?_
 refine q_n (k60 _ _ ?_)
 refine sx_seq fun K159 k159 => ?_
 refine sx_cut k159 (fun fr w' => ∃ (gb160x0 : Nat) (gs160x1 : Value) (gl160x1 : Nat) (gu160x1 : Nat) (gs160x2 : Value) (gl160x2 : Nat) (gu160x2 : Nat) (gb160x3 : Nat) (gs160x4 : Value) (gl160x4 : Nat) (gu160x4 : Nat) (gs160x5 : Value) (gl160x5 : Nat) (gu160x5 : Nat), fr = [(2, .bool false), (3, .pointer (some ⟨b7, 0, none⟩)), (4, .pointer (some ⟨b9, 0, none⟩)), (10, .pointer (some ⟨gb160x0, 0, none⟩)), (11, .pointer (some ⟨gb160x3, 0, none⟩))] ∧ Chg 0 0 w157 w' ∧ (Blk w' gb160x0 [.bool (ng (ratN (x6) p6)), gs160x1, gs160x2] 37) ∧ (Own w' gl160x1 gu160x1 gs160x1 intT ((dg (ratN (x6) p6).natAbs).length) 1 ((dg (ratN (x6) p6).natAbs).map (Value.int .i64))) ∧ (Own w' gl160x2 gu160x2 gs160x2 intT ((dg (ratE (x6) p6)).length) 1 ((dg (ratE (x6) p6)).map (Value.int .i64))) ∧ (Blk w' gb160x3 [.bool (ng (ratN (y6) q6)), gs160x4, gs160x5] 37) ∧ (Own w' gl160x4 gu160x4 gs160x4 intT ((dg (ratN (y6) q6).natAbs).length) 1 ((dg (ratN (y6) q6).natAbs).map (Value.int .i64))) ∧ (Own w' gl160x5 gu160x5 gs160x5 intT ((dg (ratE (y6) q6)).length) 1 ((dg (ratE (y6) q6)).map (Value.int .i64))) ∧ (w157.heap.size ≤ gb160x0 ∧ gb160x0 + 1 ≤ w'.heap.size) ∧ (w157.heap.size ≤ gl160x1 ∧ gu160x1 ≤ w'.heap.size) ∧ (w157.heap.size ≤ gl160x2 ∧ gu160x2 ≤ w'.heap.size) ∧ (w157.heap.size ≤ gb160x3 ∧ gb160x3 + 1 ≤ w'.heap.size) ∧ (w157.heap.size ≤ gl160x4 ∧ gu160x4 ≤ w'.heap.size) ∧ (w157.heap.size ≤ gl160x5 ∧ gu160x5 ≤ w'.heap.size) ∧ (gu160x1 ≤ gb160x0 ∨ gb160x0 + 1 ≤ gl160x1) ∧ (gu160x2 ≤ gb160x0 ∨ gb160x0 + 1 ≤ gl160x2) ∧ (gu160x2 ≤ gl160x1 ∨ gu160x1 ≤ gl160x2) ∧ (gb160x3 + 1 ≤ gb160x0 ∨ gb160x0 + 1 ≤ gb160x3) ∧ (gb160x3 + 1 ≤ gl160x1 ∨ gu160x1 ≤ gb160x3) ∧ (gb160x3 + 1 ≤ gl160x2 ∨ gu160x2 ≤ gb160x3) ∧ (gu160x4 ≤ gb160x0 ∨ gb160x0 + 1 ≤ gl160x4) ∧ (gu160x4 ≤ gl160x1 ∨ gu160x1 ≤ gl160x4) ∧ (gu160x4 ≤ gl160x2 ∨ gu160x2 ≤ gl160x4) ∧ (gu160x4 ≤ gb160x3 ∨ gb160x3 + 1 ≤ gl160x4) ∧ (gu160x5 ≤ gb160x0 ∨ gb160x0 + 1 ≤ gl160x5) ∧ (gu160x5 ≤ gl160x1 ∨ gu160x1 ≤ gl160x5) ∧ (gu160x5 ≤ gl160x2 ∨ gu160x2 ≤ gl160x5) ∧ (gu160x5 ≤ gb160x3 ∨ gb160x3 + 1 ≤ gl160x5) ∧ (gu160x5 ≤ gl160x4 ∨ gu160x4 ≤ gl160x5)) (fun kc160 => ?_) ?_
 ·
  have f162 := (f147.ext c150).ext c157
  have f167 := ((((f73.ext d136).ext c139).ext c145).ext c150).ext c157
  have f172 := ((((f83.ext d136).ext c139).ext c145).ext c150).ext c157
  have f177 := ((((f89.ext d136).ext c139).ext c145).ext c150).ext c157
  have f182 := ((((f92.ext d136).ext c139).ext c145).ext c150).ext c157
  have f187 := ((((gw58.ext d136).ext c139).ext c145).ext c150).ext c157
  have f192 := ((((f107.ext d136).ext c139).ext c145).ext c150).ext c157
  have f193 := f156.ext c157
  have f198 := ((((f124.ext d136).ext c139).ext c145).ext c150).ext c157
  have f202 := (((f137.ext c139).ext c145).ext c150).ext c157
  have f203 := f155.ext c157
  have f206 := ((f144.ext c145).ext c150).ext c157
  refine dx_region (fun w' => Chg 0 0 w157 w') (by kernel_rfl) (Chg.zero (Chg.drew _)) ?_
  have d207 := Chg.drew w157
  have s207 : Chg 0 0 w157 (World.drew w157) := Chg.zero (Chg.drew _)
  have y207 : (World.drew w157).heap.size = w157.heap.size := rfl
  generalize World.drew w157 = w207 at *
  have zw207 := d207.size
  refine dt 0 rfl rfl rfl rfl s207 (fun _ hS => px_load rfl ((f167.chg hS (by omega)).loadA (vs := [.bool (ng x6), s6, .int .i64 p6]) (look_lit rfl) Tryz.isAgg27 Tryz.sizeOf27)) ?_
  refine dt 2 rfl rfl rfl rfl s207 (fun _ hS => px_load rfl ((f172.chg hS (by omega)).loadA (vs := [.bool (ng y6), t6, .int .i64 q6]) (look_lit rfl) Tryz.isAgg27 Tryz.sizeOf27)) ?_
  refine dx_eff3 1 4 5 rfl rfl rfl (by kernel_rfl) ?_ ?_ ?_
  ·
   have f208 := f193.ext d207
   refine sx_call rfl rfl Tryz.call11 (c_iDecRatD f208 (by first | assumption | exact (sum_dok hbx.1 hbx.2 hbp.1 hbp.2).1 | exact mul_dok hbx.1 hbx.2 hbp.1 hbp.2) (by omega)) (fun v209 w209 p209 => ?_)
   obtain ⟨s209, t209, ls209, us209, lt209, ut209, rfl, os_209, ot_209, hd209, hK209, hl209, hv209, c209⟩ := p209
   have zw209 := c209.size
   have hv386_209 := hv209
   have hk386_209 := hK209
   have s210 : Chg 0 0 w157 w209 := (d207.t c209)
   refine wl_nil ?_
   refine dx_next s210 ?_
   refine dx_eff3 3 4 5 rfl rfl rfl (by kernel_rfl) ?_ ?_ ?_
   ·
    have f212 := (f198.ext d207).ext c209
    refine sx_call rfl rfl Tryz.call11 (c_iDecRatD f212 (by first | assumption | exact (sum_dok hbx.1 hbx.2 hbp.1 hbp.2).1 | exact mul_dok hbx.1 hbx.2 hbp.1 hbp.2) (by omega)) (fun v213 w213 p213 => ?_)
    obtain ⟨s213, t213, ls213, us213, lt213, ut213, rfl, os_213, ot_213, hd213, hK213, hl213, hv213, c213⟩ := p213
    have zw213 := c213.size
    have hv386_213 := hv213
    have hk386_213 := hK213
    have s214 : Chg 0 0 w157 w213 := ((d207.t c209).t c213)
    refine wl_nil ?_
    refine dx_next s214 ?_
    refine dx_eff2 4 5 rfl rfl (by kernel_rfl) ?_ ?_
    ·
     refine sx_alloc [.bool false, (.slice none 0 0), (.slice none 0 0)] rfl Tryz.zeroValue37 rfl (fun b215 w216 eb215 sb215 fb215 cb215 => ?_)
     have zw216 := cb215.size
     have s217 : Chg 0 0 w157 w216 := (((d207.t c209).t c213).t cb215)
     refine wl_nil ?_
     refine dx_next s217 ?_
     refine dx_eff 5 rfl (by kernel_rfl) ?_
     refine sx_alloc [.bool false, (.slice none 0 0), (.slice none 0 0)] rfl Tryz.zeroValue37 rfl (fun b218 w219 eb218 sb218 fb218 cb218 => ?_)
     have zw219 := cb218.size
     have s220 : Chg 0 0 w157 w219 := ((((d207.t c209).t c213).t cb215).t cb218)
     refine wl_nil ?_
     refine dx_next s220 ?_
     refine dx_eff 6 rfl (by kernel_rfl) ?_
     have f222 := fb215.ext cb218
     have f224 := (ot_209.ext c213).ext cb215
     have f225 := f224.ext cb218
     have f227 := (os_209.ext c213).ext cb215
     have f228 := f227.ext cb218
     refine sx_store (vs := [.bool (ng (ratN (x6) p6)), s209, t209]) rfl rfl f222 rfl Tryz.sizeOf37 (nbl rfl) (one_cons rfl (one_cons f228.one (one_cons f225.one one_nil))) (fun w221 sw221 fw221 cw221 => ?_)
     have zw221 := cw221.size
     have gw221 : Blk w221 b215 [.bool (ng (ratN (x6) p6)), s209, t209] 37 := fw221
     have q230 := Chg.step (l := 0) (h := 0) (Chg.zero (l := 0) (h := 0) ((((d207.t c209).t c213).t cb215).t cb218)) cw221 (by omega)
     have s229 : Chg 0 0 w157 w221 := q230
     refine wl_nil ?_
     refine dx_next s229 ?_
     refine dx_eff 7 rfl (by kernel_rfl) ?_
     have f232 := fb218.chg cw221 (by omega)
     have f233 := ot_213.ext cb215
     have f234 := f233.ext cb218
     have f235 := f234.chg cw221 (by omega)
     have f236 := os_213.ext cb215
     have f237 := f236.ext cb218
     have f238 := f237.chg cw221 (by omega)
     refine sx_store (vs := [.bool (ng (ratN (y6) q6)), s213, t213]) rfl rfl f232 rfl Tryz.sizeOf37 (nbl rfl) (one_cons rfl (one_cons f238.one (one_cons f235.one one_nil))) (fun w231 sw231 fw231 cw231 => ?_)
     have zw231 := cw231.size
     have gw231 : Blk w231 b218 [.bool (ng (ratN (y6) q6)), s213, t213] 37 := fw231
     have q240 := Chg.step (l := 0) (h := 0) (Chg.zero (l := 0) (h := 0) ((((d207.t c209).t c213).t cb215).t cb218)) cw221 (by omega)
     have q241 := Chg.step (l := 0) (h := 0) q240 cw231 (by omega)
     have s239 : Chg 0 0 w157 w231 := q241
     refine wl_nil ?_
     refine dx_next s239 ?_
     refine dx_done (by kernel_rfl) ?_
     have f242 := gw221.chg cw231 (by omega)
     have f243 := f228.chg cw221 (by omega)
     have f244 := f243.chg cw231 (by omega)
     have f245 := f225.chg cw221 (by omega)
     have f246 := f245.chg cw231 (by omega)
     have f247 := f238.chg cw231 (by omega)
     have f248 := f235.chg cw231 (by omega)
     have q249 := Chg.step (l := 0) (h := 0) (Chg.zero (l := 0) (h := 0) ((((d207.t c209).t c213).t cb215).t cb218)) cw221 (by omega)
     have q250 := Chg.step (l := 0) (h := 0) q249 cw231 (by omega)
     exact q_n (kw_sub (Sub.c 2 rfl (.c 3 rfl (.c 4 rfl (.c 10 rfl (.c 11 rfl .nil))))) (kc160 _ _ ⟨b215, s209, ls209, us209, t209, lt209, ut209, b218, s213, ls213, us213, t213, lt213, ut213, rfl, q250, f242, f244, f246, gw231, f247, f248, by omega, by omega, by omega, by omega, by omega, by omega, by omega, by omega, by omega, by omega, by omega, by omega, by omega, by omega, by omega, by omega, by omega, by omega, by omega, by omega, by omega⟩))
    refine sx_alloc [.bool false, (.slice none 0 0), (.slice none 0 0)] rfl Tryz.zeroValue37 rfl (fun b251 w252 eb251 sb251 fb251 cb251 => ?_)
    have zw252 := cb251.size
    have s253 : Chg 0 0 w157 w252 := (((d207.t c209).t c213).t cb251)
    refine wl_nil ?_
    refine dx_next s253 ?_
    refine dx_eff 4 rfl (by kernel_rfl) ?_
    refine sx_alloc [.bool false, (.slice none 0 0), (.slice none 0 0)] rfl Tryz.zeroValue37 rfl (fun b254 w255 eb254 sb254 fb254 cb254 => ?_)
    have zw255 := cb254.size
    have s256 : Chg 0 0 w157 w255 := ((((d207.t c209).t c213).t cb251).t cb254)
    refine wl_nil ?_
    refine dx_next s256 ?_
    refine dx_eff 6 rfl (by kernel_rfl) ?_
    have f259 := (ot_209.ext c213).ext cb251
    have f260 := f259.ext cb254
    have f262 := (os_209.ext c213).ext cb251
    have f263 := f262.ext cb254
    refine sx_store (vs := [.bool (ng (ratN (x6) p6)), s209, t209]) rfl rfl fb254 rfl Tryz.sizeOf37 (nbl rfl) (one_cons rfl (one_cons f263.one (one_cons f260.one one_nil))) (fun w257 sw257 fw257 cw257 => ?_)
    have zw257 := cw257.size
    have gw257 : Blk w257 b254 [.bool (ng (ratN (x6) p6)), s209, t209] 37 := fw257
    have q265 := Chg.step (l := 0) (h := 0) (Chg.zero (l := 0) (h := 0) ((((d207.t c209).t c213).t cb251).t cb254)) cw257 (by omega)
    have s264 : Chg 0 0 w157 w257 := q265
    refine wl_nil ?_
    refine dx_next s264 ?_
    refine dx_eff 7 rfl (by kernel_rfl) ?_
    have f267 := fb251.ext cb254
    have f268 := f267.chg cw257 (by omega)
    have f269 := ot_213.ext cb251
    have f270 := f269.ext cb254
    have f271 := f270.chg cw257 (by omega)
    have f272 := os_213.ext cb251
    have f273 := f272.ext cb254
    have f274 := f273.chg cw257 (by omega)
    refine sx_store (vs := [.bool (ng (ratN (y6) q6)), s213, t213]) rfl rfl f268 rfl Tryz.sizeOf37 (nbl rfl) (one_cons rfl (one_cons f274.one (one_cons f271.one one_nil))) (fun w266 sw266 fw266 cw266 => ?_)
    have zw266 := cw266.size
    have gw266 : Blk w266 b251 [.bool (ng (ratN (y6) q6)), s213, t213] 37 := fw266
    have q276 := Chg.step (l := 0) (h := 0) (Chg.zero (l := 0) (h := 0) ((((d207.t c209).t c213).t cb251).t cb254)) cw257 (by omega)
    have q277 := Chg.step (l := 0) (h := 0) q276 cw266 (by omega)
    have s275 : Chg 0 0 w157 w266 := q277
    refine wl_nil ?_
    refine dx_next s275 ?_
    refine dx_done (by kernel_rfl) ?_
    have f278 := gw257.chg cw266 (by omega)
    have f279 := f263.chg cw257 (by omega)
    have f280 := f279.chg cw266 (by omega)
    have f281 := f260.chg cw257 (by omega)
    have f282 := f281.chg cw266 (by omega)
    have f283 := f274.chg cw266 (by omega)
    have f284 := f271.chg cw266 (by omega)
    have q285 := Chg.step (l := 0) (h := 0) (Chg.zero (l := 0) (h := 0) ((((d207.t c209).t c213).t cb251).t cb254)) cw257 (by omega)
    have q286 := Chg.step (l := 0) (h := 0) q285 cw266 (by omega)
    exact q_n (kw_sub (Sub.c 2 rfl (.c 3 rfl (.c 4 rfl (.c 10 rfl (.c 11 rfl .nil))))) (kc160 _ _ ⟨b254, s209, ls209, us209, t209, lt209, ut209, b251, s213, ls213, us213, t213, lt213, ut213, rfl, q286, f278, f280, f282, gw266, f283, f284, by omega, by omega, by omega, by omega, by omega, by omega, by omega, by omega, by omega, by omega, by omega, by omega, by omega, by omega, by omega, by omega, by omega, by omega, by omega, by omega, by omega⟩))
   ·
    refine sx_alloc [.bool false, (.slice none 0 0), (.slice none 0 0)] rfl Tryz.zeroValue37 rfl (fun b287 w288 eb287 sb287 fb287 cb287 => ?_)
    have zw288 := cb287.size
    have s289 : Chg 0 0 w157 w288 := ((d207.t c209).t cb287)
    refine wl_nil ?_
    refine dx_next s289 ?_
    refine dx_eff2 3 5 rfl rfl (by kernel_rfl) ?_ ?_
    ·
     have f292 := ((f198.ext d207).ext c209).ext cb287
     refine sx_call rfl rfl Tryz.call11 (c_iDecRatD f292 (by first | assumption | exact (sum_dok hbx.1 hbx.2 hbp.1 hbp.2).1 | exact mul_dok hbx.1 hbx.2 hbp.1 hbp.2) (by omega)) (fun v293 w293 p293 => ?_)
     obtain ⟨s293, t293, ls293, us293, lt293, ut293, rfl, os_293, ot_293, hd293, hK293, hl293, hv293, c293⟩ := p293
     have zw293 := c293.size
     have hv386_293 := hv293
     have hk386_293 := hK293
     have s294 : Chg 0 0 w157 w293 := (((d207.t c209).t cb287).t c293)
     refine wl_nil ?_
     refine dx_next s294 ?_
     refine dx_eff 5 rfl (by kernel_rfl) ?_
     refine sx_alloc [.bool false, (.slice none 0 0), (.slice none 0 0)] rfl Tryz.zeroValue37 rfl (fun b295 w296 eb295 sb295 fb295 cb295 => ?_)
     have zw296 := cb295.size
     have s297 : Chg 0 0 w157 w296 := ((((d207.t c209).t cb287).t c293).t cb295)
     refine wl_nil ?_
     refine dx_next s297 ?_
     refine dx_eff 6 rfl (by kernel_rfl) ?_
     have f300 := (fb287.ext c293).ext cb295
     have f301 := ot_209.ext cb287
     have f303 := (f301.ext c293).ext cb295
     have f304 := os_209.ext cb287
     have f306 := (f304.ext c293).ext cb295
     refine sx_store (vs := [.bool (ng (ratN (x6) p6)), s209, t209]) rfl rfl f300 rfl Tryz.sizeOf37 (nbl rfl) (one_cons rfl (one_cons f306.one (one_cons f303.one one_nil))) (fun w298 sw298 fw298 cw298 => ?_)
     have zw298 := cw298.size
     have gw298 : Blk w298 b287 [.bool (ng (ratN (x6) p6)), s209, t209] 37 := fw298
     have q308 := Chg.step (l := 0) (h := 0) (Chg.zero (l := 0) (h := 0) ((((d207.t c209).t cb287).t c293).t cb295)) cw298 (by omega)
     have s307 : Chg 0 0 w157 w298 := q308
     refine wl_nil ?_
     refine dx_next s307 ?_
     refine dx_eff 7 rfl (by kernel_rfl) ?_
     have f310 := fb295.chg cw298 (by omega)
     have f311 := ot_293.ext cb295
     have f312 := f311.chg cw298 (by omega)
     have f313 := os_293.ext cb295
     have f314 := f313.chg cw298 (by omega)
     refine sx_store (vs := [.bool (ng (ratN (y6) q6)), s293, t293]) rfl rfl f310 rfl Tryz.sizeOf37 (nbl rfl) (one_cons rfl (one_cons f314.one (one_cons f312.one one_nil))) (fun w309 sw309 fw309 cw309 => ?_)
     have zw309 := cw309.size
     have gw309 : Blk w309 b295 [.bool (ng (ratN (y6) q6)), s293, t293] 37 := fw309
     have q316 := Chg.step (l := 0) (h := 0) (Chg.zero (l := 0) (h := 0) ((((d207.t c209).t cb287).t c293).t cb295)) cw298 (by omega)
     have q317 := Chg.step (l := 0) (h := 0) q316 cw309 (by omega)
     have s315 : Chg 0 0 w157 w309 := q317
     refine wl_nil ?_
     refine dx_next s315 ?_
     refine dx_done (by kernel_rfl) ?_
     have f318 := gw298.chg cw309 (by omega)
     have f319 := f306.chg cw298 (by omega)
     have f320 := f319.chg cw309 (by omega)
     have f321 := f303.chg cw298 (by omega)
     have f322 := f321.chg cw309 (by omega)
     have f323 := f314.chg cw309 (by omega)
     have f324 := f312.chg cw309 (by omega)
     have q325 := Chg.step (l := 0) (h := 0) (Chg.zero (l := 0) (h := 0) ((((d207.t c209).t cb287).t c293).t cb295)) cw298 (by omega)
     have q326 := Chg.step (l := 0) (h := 0) q325 cw309 (by omega)
     exact q_n (kw_sub (Sub.c 2 rfl (.c 3 rfl (.c 4 rfl (.c 10 rfl (.c 11 rfl .nil))))) (kc160 _ _ ⟨b287, s209, ls209, us209, t209, lt209, ut209, b295, s293, ls293, us293, t293, lt293, ut293, rfl, q326, f318, f320, f322, gw309, f323, f324, by omega, by omega, by omega, by omega, by omega, by omega, by omega, by omega, by omega, by omega, by omega, by omega, by omega, by omega, by omega, by omega, by omega, by omega, by omega, by omega, by omega⟩))
    refine sx_alloc [.bool false, (.slice none 0 0), (.slice none 0 0)] rfl Tryz.zeroValue37 rfl (fun b327 w328 eb327 sb327 fb327 cb327 => ?_)
    have zw328 := cb327.size
    have s329 : Chg 0 0 w157 w328 := (((d207.t c209).t cb287).t cb327)
    refine wl_nil ?_
    refine dx_next s329 ?_
    refine dx_eff 3 rfl (by kernel_rfl) ?_
    have f332 := ((f198.ext d207).ext c209).ext cb287
    have f333 := f332.ext cb327
    refine sx_call rfl rfl Tryz.call11 (c_iDecRatD f333 (by first | assumption | exact (sum_dok hbx.1 hbx.2 hbp.1 hbp.2).1 | exact mul_dok hbx.1 hbx.2 hbp.1 hbp.2) (by omega)) (fun v334 w334 p334 => ?_)
    obtain ⟨s334, t334, ls334, us334, lt334, ut334, rfl, os_334, ot_334, hd334, hK334, hl334, hv334, c334⟩ := p334
    have zw334 := c334.size
    have hv386_334 := hv334
    have hk386_334 := hK334
    have s335 : Chg 0 0 w157 w334 := ((((d207.t c209).t cb287).t cb327).t c334)
    refine wl_nil ?_
    refine dx_next s335 ?_
    refine dx_eff 6 rfl (by kernel_rfl) ?_
    have f337 := fb287.ext cb327
    have f338 := f337.ext c334
    have f339 := ot_209.ext cb287
    have f340 := f339.ext cb327
    have f341 := f340.ext c334
    have f342 := os_209.ext cb287
    have f343 := f342.ext cb327
    have f344 := f343.ext c334
    refine sx_store (vs := [.bool (ng (ratN (x6) p6)), s209, t209]) rfl rfl f338 rfl Tryz.sizeOf37 (nbl rfl) (one_cons rfl (one_cons f344.one (one_cons f341.one one_nil))) (fun w336 sw336 fw336 cw336 => ?_)
    have zw336 := cw336.size
    have gw336 : Blk w336 b287 [.bool (ng (ratN (x6) p6)), s209, t209] 37 := fw336
    have q346 := Chg.step (l := 0) (h := 0) (Chg.zero (l := 0) (h := 0) ((((d207.t c209).t cb287).t cb327).t c334)) cw336 (by omega)
    have s345 : Chg 0 0 w157 w336 := q346
    refine wl_nil ?_
    refine dx_next s345 ?_
    refine dx_eff 7 rfl (by kernel_rfl) ?_
    have f349 := (fb327.ext c334).chg cw336 (by omega)
    have f350 := ot_334.chg cw336 (by omega)
    have f351 := os_334.chg cw336 (by omega)
    refine sx_store (vs := [.bool (ng (ratN (y6) q6)), s334, t334]) rfl rfl f349 rfl Tryz.sizeOf37 (nbl rfl) (one_cons rfl (one_cons f351.one (one_cons f350.one one_nil))) (fun w347 sw347 fw347 cw347 => ?_)
    have zw347 := cw347.size
    have gw347 : Blk w347 b327 [.bool (ng (ratN (y6) q6)), s334, t334] 37 := fw347
    have q353 := Chg.step (l := 0) (h := 0) (Chg.zero (l := 0) (h := 0) ((((d207.t c209).t cb287).t cb327).t c334)) cw336 (by omega)
    have q354 := Chg.step (l := 0) (h := 0) q353 cw347 (by omega)
    have s352 : Chg 0 0 w157 w347 := q354
    refine wl_nil ?_
    refine dx_next s352 ?_
    refine dx_done (by kernel_rfl) ?_
    have f355 := gw336.chg cw347 (by omega)
    have f356 := f344.chg cw336 (by omega)
    have f357 := f356.chg cw347 (by omega)
    have f358 := f341.chg cw336 (by omega)
    have f359 := f358.chg cw347 (by omega)
    have f360 := f351.chg cw347 (by omega)
    have f361 := f350.chg cw347 (by omega)
    have q362 := Chg.step (l := 0) (h := 0) (Chg.zero (l := 0) (h := 0) ((((d207.t c209).t cb287).t cb327).t c334)) cw336 (by omega)
    have q363 := Chg.step (l := 0) (h := 0) q362 cw347 (by omega)
    exact q_n (kw_sub (Sub.c 2 rfl (.c 3 rfl (.c 4 rfl (.c 10 rfl (.c 11 rfl .nil))))) (kc160 _ _ ⟨b287, s209, ls209, us209, t209, lt209, ut209, b327, s334, ls334, us334, t334, lt334, ut334, rfl, q363, f355, f357, f359, gw347, f360, f361, by omega, by omega, by omega, by omega, by omega, by omega, by omega, by omega, by omega, by omega, by omega, by omega, by omega, by omega, by omega, by omega, by omega, by omega, by omega, by omega, by omega⟩))
   refine sx_alloc [.bool false, (.slice none 0 0), (.slice none 0 0)] rfl Tryz.zeroValue37 rfl (fun b364 w365 eb364 sb364 fb364 cb364 => ?_)
   have zw365 := cb364.size
   have s366 : Chg 0 0 w157 w365 := ((d207.t c209).t cb364)
   refine wl_nil ?_
   refine dx_next s366 ?_
   refine dx_eff2 3 4 rfl rfl (by kernel_rfl) ?_ ?_
   ·
    have f369 := ((f198.ext d207).ext c209).ext cb364
    refine sx_call rfl rfl Tryz.call11 (c_iDecRatD f369 (by first | assumption | exact (sum_dok hbx.1 hbx.2 hbp.1 hbp.2).1 | exact mul_dok hbx.1 hbx.2 hbp.1 hbp.2) (by omega)) (fun v370 w370 p370 => ?_)
    obtain ⟨s370, t370, ls370, us370, lt370, ut370, rfl, os_370, ot_370, hd370, hK370, hl370, hv370, c370⟩ := p370
    have zw370 := c370.size
    have hv386_370 := hv370
    have hk386_370 := hK370
    have s371 : Chg 0 0 w157 w370 := (((d207.t c209).t cb364).t c370)
    refine wl_nil ?_
    refine dx_next s371 ?_
    refine dx_eff 4 rfl (by kernel_rfl) ?_
    refine sx_alloc [.bool false, (.slice none 0 0), (.slice none 0 0)] rfl Tryz.zeroValue37 rfl (fun b372 w373 eb372 sb372 fb372 cb372 => ?_)
    have zw373 := cb372.size
    have s374 : Chg 0 0 w157 w373 := ((((d207.t c209).t cb364).t c370).t cb372)
    refine wl_nil ?_
    refine dx_next s374 ?_
    refine dx_eff 6 rfl (by kernel_rfl) ?_
    have f376 := ot_209.ext cb364
    have f378 := (f376.ext c370).ext cb372
    have f379 := os_209.ext cb364
    have f381 := (f379.ext c370).ext cb372
    refine sx_store (vs := [.bool (ng (ratN (x6) p6)), s209, t209]) rfl rfl fb372 rfl Tryz.sizeOf37 (nbl rfl) (one_cons rfl (one_cons f381.one (one_cons f378.one one_nil))) (fun w375 sw375 fw375 cw375 => ?_)
    have zw375 := cw375.size
    have gw375 : Blk w375 b372 [.bool (ng (ratN (x6) p6)), s209, t209] 37 := fw375
    have q383 := Chg.step (l := 0) (h := 0) (Chg.zero (l := 0) (h := 0) ((((d207.t c209).t cb364).t c370).t cb372)) cw375 (by omega)
    have s382 : Chg 0 0 w157 w375 := q383
    refine wl_nil ?_
    refine dx_next s382 ?_
    refine dx_eff 7 rfl (by kernel_rfl) ?_
    have f386 := (fb364.ext c370).ext cb372
    have f387 := f386.chg cw375 (by omega)
    have f388 := ot_370.ext cb372
    have f389 := f388.chg cw375 (by omega)
    have f390 := os_370.ext cb372
    have f391 := f390.chg cw375 (by omega)
    refine sx_store (vs := [.bool (ng (ratN (y6) q6)), s370, t370]) rfl rfl f387 rfl Tryz.sizeOf37 (nbl rfl) (one_cons rfl (one_cons f391.one (one_cons f389.one one_nil))) (fun w384 sw384 fw384 cw384 => ?_)
    have zw384 := cw384.size
    have gw384 : Blk w384 b364 [.bool (ng (ratN (y6) q6)), s370, t370] 37 := fw384
    have q393 := Chg.step (l := 0) (h := 0) (Chg.zero (l := 0) (h := 0) ((((d207.t c209).t cb364).t c370).t cb372)) cw375 (by omega)
    have q394 := Chg.step (l := 0) (h := 0) q393 cw384 (by omega)
    have s392 : Chg 0 0 w157 w384 := q394
    refine wl_nil ?_
    refine dx_next s392 ?_
    refine dx_done (by kernel_rfl) ?_
    have f395 := gw375.chg cw384 (by omega)
    have f396 := f381.chg cw375 (by omega)
    have f397 := f396.chg cw384 (by omega)
    have f398 := f378.chg cw375 (by omega)
    have f399 := f398.chg cw384 (by omega)
    have f400 := f391.chg cw384 (by omega)
    have f401 := f389.chg cw384 (by omega)
    have q402 := Chg.step (l := 0) (h := 0) (Chg.zero (l := 0) (h := 0) ((((d207.t c209).t cb364).t c370).t cb372)) cw375 (by omega)
    have q403 := Chg.step (l := 0) (h := 0) q402 cw384 (by omega)
    exact q_n (kw_sub (Sub.c 2 rfl (.c 3 rfl (.c 4 rfl (.c 10 rfl (.c 11 rfl .nil))))) (kc160 _ _ ⟨b372, s209, ls209, us209, t209, lt209, ut209, b364, s370, ls370, us370, t370, lt370, ut370, rfl, q403, f395, f397, f399, gw384, f400, f401, by omega, by omega, by omega, by omega, by omega, by omega, by omega, by omega, by omega, by omega, by omega, by omega, by omega, by omega, by omega, by omega, by omega, by omega, by omega, by omega, by omega⟩))
   refine sx_alloc [.bool false, (.slice none 0 0), (.slice none 0 0)] rfl Tryz.zeroValue37 rfl (fun b404 w405 eb404 sb404 fb404 cb404 => ?_)
   have zw405 := cb404.size
   have s406 : Chg 0 0 w157 w405 := (((d207.t c209).t cb364).t cb404)
   refine wl_nil ?_
   refine dx_next s406 ?_
   refine dx_eff 3 rfl (by kernel_rfl) ?_
   have f409 := ((f198.ext d207).ext c209).ext cb364
   have f410 := f409.ext cb404
   refine sx_call rfl rfl Tryz.call11 (c_iDecRatD f410 (by first | assumption | exact (sum_dok hbx.1 hbx.2 hbp.1 hbp.2).1 | exact mul_dok hbx.1 hbx.2 hbp.1 hbp.2) (by omega)) (fun v411 w411 p411 => ?_)
   obtain ⟨s411, t411, ls411, us411, lt411, ut411, rfl, os_411, ot_411, hd411, hK411, hl411, hv411, c411⟩ := p411
   have zw411 := c411.size
   have hv386_411 := hv411
   have hk386_411 := hK411
   have s412 : Chg 0 0 w157 w411 := ((((d207.t c209).t cb364).t cb404).t c411)
   refine wl_nil ?_
   refine dx_next s412 ?_
   refine dx_eff 6 rfl (by kernel_rfl) ?_
   have f414 := fb404.ext c411
   have f415 := ot_209.ext cb364
   have f416 := f415.ext cb404
   have f417 := f416.ext c411
   have f418 := os_209.ext cb364
   have f419 := f418.ext cb404
   have f420 := f419.ext c411
   refine sx_store (vs := [.bool (ng (ratN (x6) p6)), s209, t209]) rfl rfl f414 rfl Tryz.sizeOf37 (nbl rfl) (one_cons rfl (one_cons f420.one (one_cons f417.one one_nil))) (fun w413 sw413 fw413 cw413 => ?_)
   have zw413 := cw413.size
   have gw413 : Blk w413 b404 [.bool (ng (ratN (x6) p6)), s209, t209] 37 := fw413
   have q422 := Chg.step (l := 0) (h := 0) (Chg.zero (l := 0) (h := 0) ((((d207.t c209).t cb364).t cb404).t c411)) cw413 (by omega)
   have s421 : Chg 0 0 w157 w413 := q422
   refine wl_nil ?_
   refine dx_next s421 ?_
   refine dx_eff 7 rfl (by kernel_rfl) ?_
   have f424 := fb364.ext cb404
   have f426 := (f424.ext c411).chg cw413 (by omega)
   have f427 := ot_411.chg cw413 (by omega)
   have f428 := os_411.chg cw413 (by omega)
   refine sx_store (vs := [.bool (ng (ratN (y6) q6)), s411, t411]) rfl rfl f426 rfl Tryz.sizeOf37 (nbl rfl) (one_cons rfl (one_cons f428.one (one_cons f427.one one_nil))) (fun w423 sw423 fw423 cw423 => ?_)
   have zw423 := cw423.size
   have gw423 : Blk w423 b364 [.bool (ng (ratN (y6) q6)), s411, t411] 37 := fw423
   have q430 := Chg.step (l := 0) (h := 0) (Chg.zero (l := 0) (h := 0) ((((d207.t c209).t cb364).t cb404).t c411)) cw413 (by omega)
   have q431 := Chg.step (l := 0) (h := 0) q430 cw423 (by omega)
   have s429 : Chg 0 0 w157 w423 := q431
   refine wl_nil ?_
   refine dx_next s429 ?_
   refine dx_done (by kernel_rfl) ?_
   have f432 := gw413.chg cw423 (by omega)
   have f433 := f420.chg cw413 (by omega)
   have f434 := f433.chg cw423 (by omega)
   have f435 := f417.chg cw413 (by omega)
   have f436 := f435.chg cw423 (by omega)
   have f437 := f428.chg cw423 (by omega)
   have f438 := f427.chg cw423 (by omega)
   have q439 := Chg.step (l := 0) (h := 0) (Chg.zero (l := 0) (h := 0) ((((d207.t c209).t cb364).t cb404).t c411)) cw413 (by omega)
   have q440 := Chg.step (l := 0) (h := 0) q439 cw423 (by omega)
   exact q_n (kw_sub (Sub.c 2 rfl (.c 3 rfl (.c 4 rfl (.c 10 rfl (.c 11 rfl .nil))))) (kc160 _ _ ⟨b404, s209, ls209, us209, t209, lt209, ut209, b364, s411, ls411, us411, t411, lt411, ut411, rfl, q440, f432, f434, f436, gw423, f437, f438, by omega, by omega, by omega, by omega, by omega, by omega, by omega, by omega, by omega, by omega, by omega, by omega, by omega, by omega, by omega, by omega, by omega, by omega, by omega, by omega, by omega⟩))
  ·
   refine sx_alloc [.bool false, (.slice none 0 0), (.slice none 0 0)] rfl Tryz.zeroValue37 rfl (fun b441 w442 eb441 sb441 fb441 cb441 => ?_)
   have zw442 := cb441.size
   have s443 : Chg 0 0 w157 w442 := (d207.t cb441)
   refine wl_nil ?_
   refine dx_next s443 ?_
   refine dx_eff2 1 5 rfl rfl (by kernel_rfl) ?_ ?_
   ·
    have f445 := (f193.ext d207).ext cb441
    refine sx_call rfl rfl Tryz.call11 (c_iDecRatD f445 (by first | assumption | exact (sum_dok hbx.1 hbx.2 hbp.1 hbp.2).1 | exact mul_dok hbx.1 hbx.2 hbp.1 hbp.2) (by omega)) (fun v446 w446 p446 => ?_)
    obtain ⟨s446, t446, ls446, us446, lt446, ut446, rfl, os_446, ot_446, hd446, hK446, hl446, hv446, c446⟩ := p446
    have zw446 := c446.size
    have hv386_446 := hv446
    have hk386_446 := hK446
    have s447 : Chg 0 0 w157 w446 := ((d207.t cb441).t c446)
    refine wl_nil ?_
    refine dx_next s447 ?_
    refine dx_eff2 3 5 rfl rfl (by kernel_rfl) ?_ ?_
    ·
     have f449 := (f198.ext d207).ext cb441
     have f450 := f449.ext c446
     refine sx_call rfl rfl Tryz.call11 (c_iDecRatD f450 (by first | assumption | exact (sum_dok hbx.1 hbx.2 hbp.1 hbp.2).1 | exact mul_dok hbx.1 hbx.2 hbp.1 hbp.2) (by omega)) (fun v451 w451 p451 => ?_)
     obtain ⟨s451, t451, ls451, us451, lt451, ut451, rfl, os_451, ot_451, hd451, hK451, hl451, hv451, c451⟩ := p451
     have zw451 := c451.size
     have hv386_451 := hv451
     have hk386_451 := hK451
     have s452 : Chg 0 0 w157 w451 := (((d207.t cb441).t c446).t c451)
     refine wl_nil ?_
     refine dx_next s452 ?_
     refine dx_eff 5 rfl (by kernel_rfl) ?_
     refine sx_alloc [.bool false, (.slice none 0 0), (.slice none 0 0)] rfl Tryz.zeroValue37 rfl (fun b453 w454 eb453 sb453 fb453 cb453 => ?_)
     have zw454 := cb453.size
     have s455 : Chg 0 0 w157 w454 := ((((d207.t cb441).t c446).t c451).t cb453)
     refine wl_nil ?_
     refine dx_next s455 ?_
     refine dx_eff 6 rfl (by kernel_rfl) ?_
     have f459 := ((fb441.ext c446).ext c451).ext cb453
     have f461 := (ot_446.ext c451).ext cb453
     have f463 := (os_446.ext c451).ext cb453
     refine sx_store (vs := [.bool (ng (ratN (x6) p6)), s446, t446]) rfl rfl f459 rfl Tryz.sizeOf37 (nbl rfl) (one_cons rfl (one_cons f463.one (one_cons f461.one one_nil))) (fun w456 sw456 fw456 cw456 => ?_)
     have zw456 := cw456.size
     have gw456 : Blk w456 b441 [.bool (ng (ratN (x6) p6)), s446, t446] 37 := fw456
     have q465 := Chg.step (l := 0) (h := 0) (Chg.zero (l := 0) (h := 0) ((((d207.t cb441).t c446).t c451).t cb453)) cw456 (by omega)
     have s464 : Chg 0 0 w157 w456 := q465
     refine wl_nil ?_
     refine dx_next s464 ?_
     refine dx_eff 7 rfl (by kernel_rfl) ?_
     have f467 := fb453.chg cw456 (by omega)
     have f468 := ot_451.ext cb453
     have f469 := f468.chg cw456 (by omega)
     have f470 := os_451.ext cb453
     have f471 := f470.chg cw456 (by omega)
     refine sx_store (vs := [.bool (ng (ratN (y6) q6)), s451, t451]) rfl rfl f467 rfl Tryz.sizeOf37 (nbl rfl) (one_cons rfl (one_cons f471.one (one_cons f469.one one_nil))) (fun w466 sw466 fw466 cw466 => ?_)
     have zw466 := cw466.size
     have gw466 : Blk w466 b453 [.bool (ng (ratN (y6) q6)), s451, t451] 37 := fw466
     have q473 := Chg.step (l := 0) (h := 0) (Chg.zero (l := 0) (h := 0) ((((d207.t cb441).t c446).t c451).t cb453)) cw456 (by omega)
     have q474 := Chg.step (l := 0) (h := 0) q473 cw466 (by omega)
     have s472 : Chg 0 0 w157 w466 := q474
     refine wl_nil ?_
     refine dx_next s472 ?_
     refine dx_done (by kernel_rfl) ?_
     have f475 := gw456.chg cw466 (by omega)
     have f476 := f463.chg cw456 (by omega)
     have f477 := f476.chg cw466 (by omega)
     have f478 := f461.chg cw456 (by omega)
     have f479 := f478.chg cw466 (by omega)
     have f480 := f471.chg cw466 (by omega)
     have f481 := f469.chg cw466 (by omega)
     have q482 := Chg.step (l := 0) (h := 0) (Chg.zero (l := 0) (h := 0) ((((d207.t cb441).t c446).t c451).t cb453)) cw456 (by omega)
     have q483 := Chg.step (l := 0) (h := 0) q482 cw466 (by omega)
     exact q_n (kw_sub (Sub.c 2 rfl (.c 3 rfl (.c 4 rfl (.c 10 rfl (.c 11 rfl .nil))))) (kc160 _ _ ⟨b441, s446, ls446, us446, t446, lt446, ut446, b453, s451, ls451, us451, t451, lt451, ut451, rfl, q483, f475, f477, f479, gw466, f480, f481, by omega, by omega, by omega, by omega, by omega, by omega, by omega, by omega, by omega, by omega, by omega, by omega, by omega, by omega, by omega, by omega, by omega, by omega, by omega, by omega, by omega⟩))
    refine sx_alloc [.bool false, (.slice none 0 0), (.slice none 0 0)] rfl Tryz.zeroValue37 rfl (fun b484 w485 eb484 sb484 fb484 cb484 => ?_)
    have zw485 := cb484.size
    have s486 : Chg 0 0 w157 w485 := (((d207.t cb441).t c446).t cb484)
    refine wl_nil ?_
    refine dx_next s486 ?_
    refine dx_eff 3 rfl (by kernel_rfl) ?_
    have f488 := (f198.ext d207).ext cb441
    have f490 := (f488.ext c446).ext cb484
    refine sx_call rfl rfl Tryz.call11 (c_iDecRatD f490 (by first | assumption | exact (sum_dok hbx.1 hbx.2 hbp.1 hbp.2).1 | exact mul_dok hbx.1 hbx.2 hbp.1 hbp.2) (by omega)) (fun v491 w491 p491 => ?_)
    obtain ⟨s491, t491, ls491, us491, lt491, ut491, rfl, os_491, ot_491, hd491, hK491, hl491, hv491, c491⟩ := p491
    have zw491 := c491.size
    have hv386_491 := hv491
    have hk386_491 := hK491
    have s492 : Chg 0 0 w157 w491 := ((((d207.t cb441).t c446).t cb484).t c491)
    refine wl_nil ?_
    refine dx_next s492 ?_
    refine dx_eff 6 rfl (by kernel_rfl) ?_
    have f495 := (fb441.ext c446).ext cb484
    have f496 := f495.ext c491
    have f497 := ot_446.ext cb484
    have f498 := f497.ext c491
    have f499 := os_446.ext cb484
    have f500 := f499.ext c491
    refine sx_store (vs := [.bool (ng (ratN (x6) p6)), s446, t446]) rfl rfl f496 rfl Tryz.sizeOf37 (nbl rfl) (one_cons rfl (one_cons f500.one (one_cons f498.one one_nil))) (fun w493 sw493 fw493 cw493 => ?_)
    have zw493 := cw493.size
    have gw493 : Blk w493 b441 [.bool (ng (ratN (x6) p6)), s446, t446] 37 := fw493
    have q502 := Chg.step (l := 0) (h := 0) (Chg.zero (l := 0) (h := 0) ((((d207.t cb441).t c446).t cb484).t c491)) cw493 (by omega)
    have s501 : Chg 0 0 w157 w493 := q502
    refine wl_nil ?_
    refine dx_next s501 ?_
    refine dx_eff 7 rfl (by kernel_rfl) ?_
    have f505 := (fb484.ext c491).chg cw493 (by omega)
    have f506 := ot_491.chg cw493 (by omega)
    have f507 := os_491.chg cw493 (by omega)
    refine sx_store (vs := [.bool (ng (ratN (y6) q6)), s491, t491]) rfl rfl f505 rfl Tryz.sizeOf37 (nbl rfl) (one_cons rfl (one_cons f507.one (one_cons f506.one one_nil))) (fun w503 sw503 fw503 cw503 => ?_)
    have zw503 := cw503.size
    have gw503 : Blk w503 b484 [.bool (ng (ratN (y6) q6)), s491, t491] 37 := fw503
    have q509 := Chg.step (l := 0) (h := 0) (Chg.zero (l := 0) (h := 0) ((((d207.t cb441).t c446).t cb484).t c491)) cw493 (by omega)
    have q510 := Chg.step (l := 0) (h := 0) q509 cw503 (by omega)
    have s508 : Chg 0 0 w157 w503 := q510
    refine wl_nil ?_
    refine dx_next s508 ?_
    refine dx_done (by kernel_rfl) ?_
    have f511 := gw493.chg cw503 (by omega)
    have f512 := f500.chg cw493 (by omega)
    have f513 := f512.chg cw503 (by omega)
    have f514 := f498.chg cw493 (by omega)
    have f515 := f514.chg cw503 (by omega)
    have f516 := f507.chg cw503 (by omega)
    have f517 := f506.chg cw503 (by omega)
    have q518 := Chg.step (l := 0) (h := 0) (Chg.zero (l := 0) (h := 0) ((((d207.t cb441).t c446).t cb484).t c491)) cw493 (by omega)
    have q519 := Chg.step (l := 0) (h := 0) q518 cw503 (by omega)
    exact q_n (kw_sub (Sub.c 2 rfl (.c 3 rfl (.c 4 rfl (.c 10 rfl (.c 11 rfl .nil))))) (kc160 _ _ ⟨b441, s446, ls446, us446, t446, lt446, ut446, b484, s491, ls491, us491, t491, lt491, ut491, rfl, q519, f511, f513, f515, gw503, f516, f517, by omega, by omega, by omega, by omega, by omega, by omega, by omega, by omega, by omega, by omega, by omega, by omega, by omega, by omega, by omega, by omega, by omega, by omega, by omega, by omega, by omega⟩))
   refine sx_alloc [.bool false, (.slice none 0 0), (.slice none 0 0)] rfl Tryz.zeroValue37 rfl (fun b520 w521 eb520 sb520 fb520 cb520 => ?_)
   have zw521 := cb520.size
   have s522 : Chg 0 0 w157 w521 := ((d207.t cb441).t cb520)
   refine wl_nil ?_
   refine dx_next s522 ?_
   refine dx_eff 1 rfl (by kernel_rfl) ?_
   have f524 := (f193.ext d207).ext cb441
   have f525 := f524.ext cb520
   refine sx_call rfl rfl Tryz.call11 (c_iDecRatD f525 (by first | assumption | exact (sum_dok hbx.1 hbx.2 hbp.1 hbp.2).1 | exact mul_dok hbx.1 hbx.2 hbp.1 hbp.2) (by omega)) (fun v526 w526 p526 => ?_)
   obtain ⟨s526, t526, ls526, us526, lt526, ut526, rfl, os_526, ot_526, hd526, hK526, hl526, hv526, c526⟩ := p526
   have zw526 := c526.size
   have hv386_526 := hv526
   have hk386_526 := hK526
   have s527 : Chg 0 0 w157 w526 := (((d207.t cb441).t cb520).t c526)
   refine wl_nil ?_
   refine dx_next s527 ?_
   refine dx_eff 3 rfl (by kernel_rfl) ?_
   have f529 := (f198.ext d207).ext cb441
   have f530 := f529.ext cb520
   have f531 := f530.ext c526
   refine sx_call rfl rfl Tryz.call11 (c_iDecRatD f531 (by first | assumption | exact (sum_dok hbx.1 hbx.2 hbp.1 hbp.2).1 | exact mul_dok hbx.1 hbx.2 hbp.1 hbp.2) (by omega)) (fun v532 w532 p532 => ?_)
   obtain ⟨s532, t532, ls532, us532, lt532, ut532, rfl, os_532, ot_532, hd532, hK532, hl532, hv532, c532⟩ := p532
   have zw532 := c532.size
   have hv386_532 := hv532
   have hk386_532 := hK532
   have s533 : Chg 0 0 w157 w532 := ((((d207.t cb441).t cb520).t c526).t c532)
   refine wl_nil ?_
   refine dx_next s533 ?_
   refine dx_eff 6 rfl (by kernel_rfl) ?_
   have f535 := fb441.ext cb520
   have f537 := (f535.ext c526).ext c532
   have f538 := ot_526.ext c532
   have f539 := os_526.ext c532
   refine sx_store (vs := [.bool (ng (ratN (x6) p6)), s526, t526]) rfl rfl f537 rfl Tryz.sizeOf37 (nbl rfl) (one_cons rfl (one_cons f539.one (one_cons f538.one one_nil))) (fun w534 sw534 fw534 cw534 => ?_)
   have zw534 := cw534.size
   have gw534 : Blk w534 b441 [.bool (ng (ratN (x6) p6)), s526, t526] 37 := fw534
   have q541 := Chg.step (l := 0) (h := 0) (Chg.zero (l := 0) (h := 0) ((((d207.t cb441).t cb520).t c526).t c532)) cw534 (by omega)
   have s540 : Chg 0 0 w157 w534 := q541
   refine wl_nil ?_
   refine dx_next s540 ?_
   refine dx_eff 7 rfl (by kernel_rfl) ?_
   have f545 := ((fb520.ext c526).ext c532).chg cw534 (by omega)
   have f546 := ot_532.chg cw534 (by omega)
   have f547 := os_532.chg cw534 (by omega)
   refine sx_store (vs := [.bool (ng (ratN (y6) q6)), s532, t532]) rfl rfl f545 rfl Tryz.sizeOf37 (nbl rfl) (one_cons rfl (one_cons f547.one (one_cons f546.one one_nil))) (fun w542 sw542 fw542 cw542 => ?_)
   have zw542 := cw542.size
   have gw542 : Blk w542 b520 [.bool (ng (ratN (y6) q6)), s532, t532] 37 := fw542
   have q549 := Chg.step (l := 0) (h := 0) (Chg.zero (l := 0) (h := 0) ((((d207.t cb441).t cb520).t c526).t c532)) cw534 (by omega)
   have q550 := Chg.step (l := 0) (h := 0) q549 cw542 (by omega)
   have s548 : Chg 0 0 w157 w542 := q550
   refine wl_nil ?_
   refine dx_next s548 ?_
   refine dx_done (by kernel_rfl) ?_
   have f551 := gw534.chg cw542 (by omega)
   have f552 := f539.chg cw534 (by omega)
   have f553 := f552.chg cw542 (by omega)
   have f554 := f538.chg cw534 (by omega)
   have f555 := f554.chg cw542 (by omega)
   have f556 := f547.chg cw542 (by omega)
   have f557 := f546.chg cw542 (by omega)
   have q558 := Chg.step (l := 0) (h := 0) (Chg.zero (l := 0) (h := 0) ((((d207.t cb441).t cb520).t c526).t c532)) cw534 (by omega)
   have q559 := Chg.step (l := 0) (h := 0) q558 cw542 (by omega)
   exact q_n (kw_sub (Sub.c 2 rfl (.c 3 rfl (.c 4 rfl (.c 10 rfl (.c 11 rfl .nil))))) (kc160 _ _ ⟨b441, s526, ls526, us526, t526, lt526, ut526, b520, s532, ls532, us532, t532, lt532, ut532, rfl, q559, f551, f553, f555, gw542, f556, f557, by omega, by omega, by omega, by omega, by omega, by omega, by omega, by omega, by omega, by omega, by omega, by omega, by omega, by omega, by omega, by omega, by omega, by omega, by omega, by omega, by omega⟩))
  refine sx_alloc [.bool false, (.slice none 0 0), (.slice none 0 0)] rfl Tryz.zeroValue37 rfl (fun b560 w561 eb560 sb560 fb560 cb560 => ?_)
  have zw561 := cb560.size
  have s562 : Chg 0 0 w157 w561 := (d207.t cb560)
  refine wl_nil ?_
  refine dx_next s562 ?_
  refine dx_eff2 1 4 rfl rfl (by kernel_rfl) ?_ ?_
  ·
   have f564 := (f193.ext d207).ext cb560
   refine sx_call rfl rfl Tryz.call11 (c_iDecRatD f564 (by first | assumption | exact (sum_dok hbx.1 hbx.2 hbp.1 hbp.2).1 | exact mul_dok hbx.1 hbx.2 hbp.1 hbp.2) (by omega)) (fun v565 w565 p565 => ?_)
   obtain ⟨s565, t565, ls565, us565, lt565, ut565, rfl, os_565, ot_565, hd565, hK565, hl565, hv565, c565⟩ := p565
   have zw565 := c565.size
   have hv386_565 := hv565
   have hk386_565 := hK565
   have s566 : Chg 0 0 w157 w565 := ((d207.t cb560).t c565)
   refine wl_nil ?_
   refine dx_next s566 ?_
   refine dx_eff2 3 4 rfl rfl (by kernel_rfl) ?_ ?_
   ·
    have f568 := (f198.ext d207).ext cb560
    have f569 := f568.ext c565
    refine sx_call rfl rfl Tryz.call11 (c_iDecRatD f569 (by first | assumption | exact (sum_dok hbx.1 hbx.2 hbp.1 hbp.2).1 | exact mul_dok hbx.1 hbx.2 hbp.1 hbp.2) (by omega)) (fun v570 w570 p570 => ?_)
    obtain ⟨s570, t570, ls570, us570, lt570, ut570, rfl, os_570, ot_570, hd570, hK570, hl570, hv570, c570⟩ := p570
    have zw570 := c570.size
    have hv386_570 := hv570
    have hk386_570 := hK570
    have s571 : Chg 0 0 w157 w570 := (((d207.t cb560).t c565).t c570)
    refine wl_nil ?_
    refine dx_next s571 ?_
    refine dx_eff 4 rfl (by kernel_rfl) ?_
    refine sx_alloc [.bool false, (.slice none 0 0), (.slice none 0 0)] rfl Tryz.zeroValue37 rfl (fun b572 w573 eb572 sb572 fb572 cb572 => ?_)
    have zw573 := cb572.size
    have s574 : Chg 0 0 w157 w573 := ((((d207.t cb560).t c565).t c570).t cb572)
    refine wl_nil ?_
    refine dx_next s574 ?_
    refine dx_eff 6 rfl (by kernel_rfl) ?_
    have f577 := (ot_565.ext c570).ext cb572
    have f579 := (os_565.ext c570).ext cb572
    refine sx_store (vs := [.bool (ng (ratN (x6) p6)), s565, t565]) rfl rfl fb572 rfl Tryz.sizeOf37 (nbl rfl) (one_cons rfl (one_cons f579.one (one_cons f577.one one_nil))) (fun w575 sw575 fw575 cw575 => ?_)
    have zw575 := cw575.size
    have gw575 : Blk w575 b572 [.bool (ng (ratN (x6) p6)), s565, t565] 37 := fw575
    have q581 := Chg.step (l := 0) (h := 0) (Chg.zero (l := 0) (h := 0) ((((d207.t cb560).t c565).t c570).t cb572)) cw575 (by omega)
    have s580 : Chg 0 0 w157 w575 := q581
    refine wl_nil ?_
    refine dx_next s580 ?_
    refine dx_eff 7 rfl (by kernel_rfl) ?_
    have f585 := ((fb560.ext c565).ext c570).ext cb572
    have f586 := f585.chg cw575 (by omega)
    have f587 := ot_570.ext cb572
    have f588 := f587.chg cw575 (by omega)
    have f589 := os_570.ext cb572
    have f590 := f589.chg cw575 (by omega)
    refine sx_store (vs := [.bool (ng (ratN (y6) q6)), s570, t570]) rfl rfl f586 rfl Tryz.sizeOf37 (nbl rfl) (one_cons rfl (one_cons f590.one (one_cons f588.one one_nil))) (fun w582 sw582 fw582 cw582 => ?_)
    have zw582 := cw582.size
    have gw582 : Blk w582 b560 [.bool (ng (ratN (y6) q6)), s570, t570] 37 := fw582
    have q592 := Chg.step (l := 0) (h := 0) (Chg.zero (l := 0) (h := 0) ((((d207.t cb560).t c565).t c570).t cb572)) cw575 (by omega)
    have q593 := Chg.step (l := 0) (h := 0) q592 cw582 (by omega)
    have s591 : Chg 0 0 w157 w582 := q593
    refine wl_nil ?_
    refine dx_next s591 ?_
    refine dx_done (by kernel_rfl) ?_
    have f594 := gw575.chg cw582 (by omega)
    have f595 := f579.chg cw575 (by omega)
    have f596 := f595.chg cw582 (by omega)
    have f597 := f577.chg cw575 (by omega)
    have f598 := f597.chg cw582 (by omega)
    have f599 := f590.chg cw582 (by omega)
    have f600 := f588.chg cw582 (by omega)
    have q601 := Chg.step (l := 0) (h := 0) (Chg.zero (l := 0) (h := 0) ((((d207.t cb560).t c565).t c570).t cb572)) cw575 (by omega)
    have q602 := Chg.step (l := 0) (h := 0) q601 cw582 (by omega)
    exact q_n (kw_sub (Sub.c 2 rfl (.c 3 rfl (.c 4 rfl (.c 10 rfl (.c 11 rfl .nil))))) (kc160 _ _ ⟨b572, s565, ls565, us565, t565, lt565, ut565, b560, s570, ls570, us570, t570, lt570, ut570, rfl, q602, f594, f596, f598, gw582, f599, f600, by omega, by omega, by omega, by omega, by omega, by omega, by omega, by omega, by omega, by omega, by omega, by omega, by omega, by omega, by omega, by omega, by omega, by omega, by omega, by omega, by omega⟩))
   refine sx_alloc [.bool false, (.slice none 0 0), (.slice none 0 0)] rfl Tryz.zeroValue37 rfl (fun b603 w604 eb603 sb603 fb603 cb603 => ?_)
   have zw604 := cb603.size
   have s605 : Chg 0 0 w157 w604 := (((d207.t cb560).t c565).t cb603)
   refine wl_nil ?_
   refine dx_next s605 ?_
   refine dx_eff 3 rfl (by kernel_rfl) ?_
   have f607 := (f198.ext d207).ext cb560
   have f609 := (f607.ext c565).ext cb603
   refine sx_call rfl rfl Tryz.call11 (c_iDecRatD f609 (by first | assumption | exact (sum_dok hbx.1 hbx.2 hbp.1 hbp.2).1 | exact mul_dok hbx.1 hbx.2 hbp.1 hbp.2) (by omega)) (fun v610 w610 p610 => ?_)
   obtain ⟨s610, t610, ls610, us610, lt610, ut610, rfl, os_610, ot_610, hd610, hK610, hl610, hv610, c610⟩ := p610
   have zw610 := c610.size
   have hv386_610 := hv610
   have hk386_610 := hK610
   have s611 : Chg 0 0 w157 w610 := ((((d207.t cb560).t c565).t cb603).t c610)
   refine wl_nil ?_
   refine dx_next s611 ?_
   refine dx_eff 6 rfl (by kernel_rfl) ?_
   have f613 := fb603.ext c610
   have f614 := ot_565.ext cb603
   have f615 := f614.ext c610
   have f616 := os_565.ext cb603
   have f617 := f616.ext c610
   refine sx_store (vs := [.bool (ng (ratN (x6) p6)), s565, t565]) rfl rfl f613 rfl Tryz.sizeOf37 (nbl rfl) (one_cons rfl (one_cons f617.one (one_cons f615.one one_nil))) (fun w612 sw612 fw612 cw612 => ?_)
   have zw612 := cw612.size
   have gw612 : Blk w612 b603 [.bool (ng (ratN (x6) p6)), s565, t565] 37 := fw612
   have q619 := Chg.step (l := 0) (h := 0) (Chg.zero (l := 0) (h := 0) ((((d207.t cb560).t c565).t cb603).t c610)) cw612 (by omega)
   have s618 : Chg 0 0 w157 w612 := q619
   refine wl_nil ?_
   refine dx_next s618 ?_
   refine dx_eff 7 rfl (by kernel_rfl) ?_
   have f622 := (fb560.ext c565).ext cb603
   have f624 := (f622.ext c610).chg cw612 (by omega)
   have f625 := ot_610.chg cw612 (by omega)
   have f626 := os_610.chg cw612 (by omega)
   refine sx_store (vs := [.bool (ng (ratN (y6) q6)), s610, t610]) rfl rfl f624 rfl Tryz.sizeOf37 (nbl rfl) (one_cons rfl (one_cons f626.one (one_cons f625.one one_nil))) (fun w620 sw620 fw620 cw620 => ?_)
   have zw620 := cw620.size
   have gw620 : Blk w620 b560 [.bool (ng (ratN (y6) q6)), s610, t610] 37 := fw620
   have q628 := Chg.step (l := 0) (h := 0) (Chg.zero (l := 0) (h := 0) ((((d207.t cb560).t c565).t cb603).t c610)) cw612 (by omega)
   have q629 := Chg.step (l := 0) (h := 0) q628 cw620 (by omega)
   have s627 : Chg 0 0 w157 w620 := q629
   refine wl_nil ?_
   refine dx_next s627 ?_
   refine dx_done (by kernel_rfl) ?_
   have f630 := gw612.chg cw620 (by omega)
   have f631 := f617.chg cw612 (by omega)
   have f632 := f631.chg cw620 (by omega)
   have f633 := f615.chg cw612 (by omega)
   have f634 := f633.chg cw620 (by omega)
   have f635 := f626.chg cw620 (by omega)
   have f636 := f625.chg cw620 (by omega)
   have q637 := Chg.step (l := 0) (h := 0) (Chg.zero (l := 0) (h := 0) ((((d207.t cb560).t c565).t cb603).t c610)) cw612 (by omega)
   have q638 := Chg.step (l := 0) (h := 0) q637 cw620 (by omega)
   exact q_n (kw_sub (Sub.c 2 rfl (.c 3 rfl (.c 4 rfl (.c 10 rfl (.c 11 rfl .nil))))) (kc160 _ _ ⟨b603, s565, ls565, us565, t565, lt565, ut565, b560, s610, ls610, us610, t610, lt610, ut610, rfl, q638, f630, f632, f634, gw620, f635, f636, by omega, by omega, by omega, by omega, by omega, by omega, by omega, by omega, by omega, by omega, by omega, by omega, by omega, by omega, by omega, by omega, by omega, by omega, by omega, by omega, by omega⟩))
  refine sx_alloc [.bool false, (.slice none 0 0), (.slice none 0 0)] rfl Tryz.zeroValue37 rfl (fun b639 w640 eb639 sb639 fb639 cb639 => ?_)
  have zw640 := cb639.size
  have s641 : Chg 0 0 w157 w640 := ((d207.t cb560).t cb639)
  refine wl_nil ?_
  refine dx_next s641 ?_
  refine dx_eff 1 rfl (by kernel_rfl) ?_
  have f643 := (f193.ext d207).ext cb560
  have f644 := f643.ext cb639
  refine sx_call rfl rfl Tryz.call11 (c_iDecRatD f644 (by first | assumption | exact (sum_dok hbx.1 hbx.2 hbp.1 hbp.2).1 | exact mul_dok hbx.1 hbx.2 hbp.1 hbp.2) (by omega)) (fun v645 w645 p645 => ?_)
  obtain ⟨s645, t645, ls645, us645, lt645, ut645, rfl, os_645, ot_645, hd645, hK645, hl645, hv645, c645⟩ := p645
  have zw645 := c645.size
  have hv386_645 := hv645
  have hk386_645 := hK645
  have s646 : Chg 0 0 w157 w645 := (((d207.t cb560).t cb639).t c645)
  refine wl_nil ?_
  refine dx_next s646 ?_
  refine dx_eff 3 rfl (by kernel_rfl) ?_
  have f648 := (f198.ext d207).ext cb560
  have f649 := f648.ext cb639
  have f650 := f649.ext c645
  refine sx_call rfl rfl Tryz.call11 (c_iDecRatD f650 (by first | assumption | exact (sum_dok hbx.1 hbx.2 hbp.1 hbp.2).1 | exact mul_dok hbx.1 hbx.2 hbp.1 hbp.2) (by omega)) (fun v651 w651 p651 => ?_)
  obtain ⟨s651, t651, ls651, us651, lt651, ut651, rfl, os_651, ot_651, hd651, hK651, hl651, hv651, c651⟩ := p651
  have zw651 := c651.size
  have hv386_651 := hv651
  have hk386_651 := hK651
  have s652 : Chg 0 0 w157 w651 := ((((d207.t cb560).t cb639).t c645).t c651)
  refine wl_nil ?_
  refine dx_next s652 ?_
  refine dx_eff 6 rfl (by kernel_rfl) ?_
  have f655 := (fb639.ext c645).ext c651
  have f656 := ot_645.ext c651
  have f657 := os_645.ext c651
  refine sx_store (vs := [.bool (ng (ratN (x6) p6)), s645, t645]) rfl rfl f655 rfl Tryz.sizeOf37 (nbl rfl) (one_cons rfl (one_cons f657.one (one_cons f656.one one_nil))) (fun w653 sw653 fw653 cw653 => ?_)
  have zw653 := cw653.size
  have gw653 : Blk w653 b639 [.bool (ng (ratN (x6) p6)), s645, t645] 37 := fw653
  have q659 := Chg.step (l := 0) (h := 0) (Chg.zero (l := 0) (h := 0) ((((d207.t cb560).t cb639).t c645).t c651)) cw653 (by omega)
  have s658 : Chg 0 0 w157 w653 := q659
  refine wl_nil ?_
  refine dx_next s658 ?_
  refine dx_eff 7 rfl (by kernel_rfl) ?_
  have f661 := fb560.ext cb639
  have f664 := ((f661.ext c645).ext c651).chg cw653 (by omega)
  have f665 := ot_651.chg cw653 (by omega)
  have f666 := os_651.chg cw653 (by omega)
  refine sx_store (vs := [.bool (ng (ratN (y6) q6)), s651, t651]) rfl rfl f664 rfl Tryz.sizeOf37 (nbl rfl) (one_cons rfl (one_cons f666.one (one_cons f665.one one_nil))) (fun w660 sw660 fw660 cw660 => ?_)
  have zw660 := cw660.size
  have gw660 : Blk w660 b560 [.bool (ng (ratN (y6) q6)), s651, t651] 37 := fw660
  have q668 := Chg.step (l := 0) (h := 0) (Chg.zero (l := 0) (h := 0) ((((d207.t cb560).t cb639).t c645).t c651)) cw653 (by omega)
  have q669 := Chg.step (l := 0) (h := 0) q668 cw660 (by omega)
  have s667 : Chg 0 0 w157 w660 := q669
  refine wl_nil ?_
  refine dx_next s667 ?_
  refine dx_done (by kernel_rfl) ?_
  have f670 := gw653.chg cw660 (by omega)
  have f671 := f657.chg cw653 (by omega)
  have f672 := f671.chg cw660 (by omega)
  have f673 := f656.chg cw653 (by omega)
  have f674 := f673.chg cw660 (by omega)
  have f675 := f666.chg cw660 (by omega)
  have f676 := f665.chg cw660 (by omega)
  have q677 := Chg.step (l := 0) (h := 0) (Chg.zero (l := 0) (h := 0) ((((d207.t cb560).t cb639).t c645).t c651)) cw653 (by omega)
  have q678 := Chg.step (l := 0) (h := 0) q677 cw660 (by omega)
  exact q_n (kw_sub (Sub.c 2 rfl (.c 3 rfl (.c 4 rfl (.c 10 rfl (.c 11 rfl .nil))))) (kc160 _ _ ⟨b639, s645, ls645, us645, t645, lt645, ut645, b560, s651, ls651, us651, t651, lt651, ut651, rfl, q678, f670, f672, f674, gw660, f675, f676, by omega, by omega, by omega, by omega, by omega, by omega, by omega, by omega, by omega, by omega, by omega, by omega, by omega, by omega, by omega, by omega, by omega, by omega, by omega, by omega, by omega⟩))
 rintro fr w'160 ⟨gb160x0, gs160x1, gl160x1, gu160x1, gs160x2, gl160x2, gu160x2, gb160x3, gs160x4, gl160x4, gu160x4, gs160x5, gl160x5, gu160x5, rfl, cw'160, xgb160x0, xgs160x1, xgs160x2, xgb160x3, xgs160x4, xgs160x5, ygb160x0, ygl160x1, ygl160x2, ygb160x3, ygl160x4, ygl160x5, dgl160x1xgb160x0, dgl160x2xgb160x0, dgl160x2xgl160x1, dgb160x3xgb160x0, dgb160x3xgl160x1, dgb160x3xgl160x2, dgl160x4xgb160x0, dgl160x4xgl160x1, dgl160x4xgl160x2, dgl160x4xgb160x3, dgl160x5xgb160x0, dgl160x5xgl160x1, dgl160x5xgl160x2, dgl160x5xgb160x3, dgl160x5xgl160x4⟩
 have zw'160 := cw'160.size
 refine sx_seq fun K679 k679 => sx_region ?_
 have f685 := (((((f73.ext d136).ext c139).ext c145).ext c150).ext c157).ext cw'160
 refine sp rfl (px_load rfl (f685.loadA (vs := [.bool (ng x6), s6, .int .i64 p6]) (look_lit rfl) Tryz.isAgg27 Tryz.sizeOf27)) ?_
 have f691 := (((((f83.ext d136).ext c139).ext c145).ext c150).ext c157).ext cw'160
 refine sp rfl (px_load rfl (f691.loadA (vs := [.bool (ng y6), t6, .int .i64 q6]) (look_lit rfl) Tryz.isAgg27 Tryz.sizeOf27)) ?_
 have f693 := (f156.ext c157).ext cw'160
 have f699 := (((((f124.ext d136).ext c139).ext c145).ext c150).ext c157).ext cw'160
 refine sx_call rfl rfl Tryz.call12 (c_iDecAddD f693 f699 (by assumption) (by assumption) ((sum_dok hbx.1 hbx.2 hbp.1 hbp.2).1)) (fun v700 w700 p700 => ?_)
 obtain ⟨s700, rfl, os_700, c700⟩ := p700
 have zw700 := c700.size
 refine mv rfl rfl (sp rfl (px_ex2 rfl rfl) ?_)
 refine sp rfl (px_ex2 rfl rfl) ?_
 refine sx_alloc [.bool false, (.slice none 0 0), .int .i64 0] rfl Tryz.zeroValue27 rfl (fun b701 w702 eb701 sb701 fb701 cb701 => ?_)
 have zw702 := cb701.size
 have f704 := os_700.ext cb701
 refine sx_store (vs := [.bool (ng (sumD (x6) p6 (y6) q6)), s700, .int .i64 (max p6 q6)]) rfl rfl fb701 rfl Tryz.sizeOf27 (nbl rfl) (one_cons rfl (one_cons f704.one (o1 rfl))) (fun w703 sw703 fw703 cw703 => ?_)
 have zw703 := cw703.size
 have gw703 : Blk w703 b701 [.bool (ng (sumD (x6) p6 (y6) q6)), s700, .int .i64 (max p6 q6)] 27 := fw703
 refine av rfl rfl (wl_nil (q_n (k679 _ _ ?_)))
 refine sx_seq fun K705 k705 => sx_region ?_
 have f707 := (f685.ext c700).ext cb701
 have f708 := f707.chg cw703 (by omega)
 refine sp rfl (px_load rfl (f708.loadA (vs := [.bool (ng x6), s6, .int .i64 p6]) (look_lit rfl) Tryz.isAgg27 Tryz.sizeOf27)) ?_
 have f710 := (f691.ext c700).ext cb701
 have f711 := f710.chg cw703 (by omega)
 refine sp rfl (px_load rfl (f711.loadA (vs := [.bool (ng y6), t6, .int .i64 q6]) (look_lit rfl) Tryz.isAgg27 Tryz.sizeOf27)) ?_
 have f713 := (f693.ext c700).ext cb701
 have f714 := f713.chg cw703 (by omega)
 have f716 := (f699.ext c700).ext cb701
 have f717 := f716.chg cw703 (by omega)
 refine sx_call rfl rfl Tryz.call13 (c_iDecMulD f714 f717 (by assumption) (by assumption) (mul_dok hbx.1 hbx.2 hbp.1 hbp.2)) (fun v718 w718 p718 => ?_)
 obtain ⟨s718, rfl, os_718, c718⟩ := p718
 have zw718 := c718.size
 refine mv rfl rfl (sp rfl (px_ex2 rfl rfl) ?_)
 refine sp rfl (px_ex2 rfl rfl) ?_
 refine sx_alloc [.bool false, (.slice none 0 0), .int .i64 0] rfl Tryz.zeroValue27 rfl (fun b719 w720 eb719 sb719 fb719 cb719 => ?_)
 have zw720 := cb719.size
 have f722 := os_718.ext cb719
 refine sx_store (vs := [.bool (ng ((x6) * (y6))), s718, .int .i64 (p6 + q6)]) rfl rfl fb719 rfl Tryz.sizeOf27 (nbl rfl) (one_cons rfl (one_cons f722.one (o1 rfl))) (fun w721 sw721 fw721 cw721 => ?_)
 have zw721 := cw721.size
 have gw721 : Blk w721 b719 [.bool (ng ((x6) * (y6))), s718, .int .i64 (p6 + q6)] 27 := fw721
 refine av rfl rfl (wl_nil (q_n (k705 _ _ ?_)))
 refine sx_sub (Sub.c 2 rfl (.c 3 rfl (.c 4 rfl (.c 10 rfl (.c 11 rfl (.c 12 rfl (.c 13 rfl (.c 14 rfl (.c 15 rfl .nil))))))))) ?_
 refine sx_seq fun K723 k723 => sx_region ?_
 have f725 := (gw703.ext c718).ext cb719
 have f726 := f725.chg cw721 (by omega)
 refine sp rfl (px_load rfl (f726.loadA (vs := [.bool (ng (sumD (x6) p6 (y6) q6)), s700, .int .i64 (max p6 q6)]) (look_lit rfl) Tryz.isAgg27 Tryz.sizeOf27)) ?_
 have f728 := (f711.ext c718).ext cb719
 have f729 := f728.chg cw721 (by omega)
 refine sp rfl (px_load rfl (f729.loadA (vs := [.bool (ng y6), t6, .int .i64 q6]) (look_lit rfl) Tryz.isAgg27 Tryz.sizeOf27)) ?_
 have f730 := f704.chg cw703 (by omega)
 have f732 := (f730.ext c718).ext cb719
 have f733 := f732.chg cw721 (by omega)
 have f735 := (f717.ext c718).ext cb719
 have f736 := f735.chg cw721 (by omega)
 refine sx_call rfl rfl Tryz.call14 (c_iDecSubD f733.sv f736 ((sum_dok hbx.1 hbx.2 hbp.1 hbp.2).1) (by assumption) (sub_dok hbx.1 hbp.1 hbp.2)) (fun v737 w737 p737 => ?_)
 obtain ⟨s737, rfl, os_737, c737⟩ := p737
 have zw737 := c737.size
 refine mv rfl rfl (sp rfl (px_ex2 rfl rfl) ?_)
 refine sp rfl (px_ex2 rfl rfl) ?_
 refine sx_alloc [.bool false, (.slice none 0 0), .int .i64 0] rfl Tryz.zeroValue27 rfl (fun b738 w739 eb738 sb738 fb738 cb738 => ?_)
 have zw739 := cb738.size
 have f741 := os_737.ext cb738
 refine sx_store (vs := [.bool (ng (subD (sumD (x6) p6 (y6) q6) (max p6 q6) (y6) q6)), s737, .int .i64 (max (max p6 q6) q6)]) rfl rfl fb738 rfl Tryz.sizeOf27 (nbl rfl) (one_cons rfl (one_cons f741.one (o1 rfl))) (fun w740 sw740 fw740 cw740 => ?_)
 have zw740 := cw740.size
 have gw740 : Blk w740 b738 [.bool (ng (subD (sumD (x6) p6 (y6) q6) (max p6 q6) (y6) q6)), s737, .int .i64 (max (max p6 q6) q6)] 27 := fw740
 refine av rfl rfl (wl_nil (q_n (k723 _ _ ?_)))
 refine sx_sub (Sub.c 2 rfl (.c 3 rfl (.c 4 rfl (.c 10 rfl (.c 11 rfl (.c 12 rfl (.c 13 rfl (.c 14 rfl (.c 15 rfl (.c 16 rfl (.c 17 rfl .nil))))))))))) ?_
 refine sx_seq fun K742 k742 => ?_
 have f745 := ((f147.ext c150).ext c157).ext cw'160
 have f747 := (f745.ext c700).ext cb701
 have f748 := f747.chg cw703 (by omega)
 have f750 := (f748.ext c718).ext cb719
 have f751 := f750.chg cw721 (by omega)
 have f753 := (f751.ext c737).ext cb738
 have f754 := f753.chg cw740 (by omega)
 have f756 := (f708.ext c718).ext cb719
 have f757 := f756.chg cw721 (by omega)
 have f759 := (f757.ext c737).ext cb738
 have f760 := f759.chg cw740 (by omega)
 have f762 := (f729.ext c737).ext cb738
 have f763 := f762.chg cw740 (by omega)
 have f769 := (((((f89.ext d136).ext c139).ext c145).ext c150).ext c157).ext cw'160
 have f771 := (f769.ext c700).ext cb701
 have f772 := f771.chg cw703 (by omega)
 have f774 := (f772.ext c718).ext cb719
 have f775 := f774.chg cw721 (by omega)
 have f777 := (f775.ext c737).ext cb738
 have f778 := f777.chg cw740 (by omega)
 have f784 := (((((f92.ext d136).ext c139).ext c145).ext c150).ext c157).ext cw'160
 have f786 := (f784.ext c700).ext cb701
 have f787 := f786.chg cw703 (by omega)
 have f789 := (f787.ext c718).ext cb719
 have f790 := f789.chg cw721 (by omega)
 have f792 := (f790.ext c737).ext cb738
 have f793 := f792.chg cw740 (by omega)
 have f799 := (((((gw58.ext d136).ext c139).ext c145).ext c150).ext c157).ext cw'160
 have f801 := (f799.ext c700).ext cb701
 have f802 := f801.chg cw703 (by omega)
 have f804 := (f802.ext c718).ext cb719
 have f805 := f804.chg cw721 (by omega)
 have f807 := (f805.ext c737).ext cb738
 have f808 := f807.chg cw740 (by omega)
 have f810 := (xgb160x0.ext c700).ext cb701
 have f811 := f810.chg cw703 (by omega)
 have f813 := (f811.ext c718).ext cb719
 have f814 := f813.chg cw721 (by omega)
 have f816 := (f814.ext c737).ext cb738
 have f817 := f816.chg cw740 (by omega)
 have f819 := (xgb160x3.ext c700).ext cb701
 have f820 := f819.chg cw703 (by omega)
 have f822 := (f820.ext c718).ext cb719
 have f823 := f822.chg cw721 (by omega)
 have f825 := (f823.ext c737).ext cb738
 have f826 := f825.chg cw740 (by omega)
 have f828 := (f726.ext c737).ext cb738
 have f829 := f828.chg cw740 (by omega)
 have f831 := (gw721.ext c737).ext cb738
 have f832 := f831.chg cw740 (by omega)
 have f838 := (((((f107.ext d136).ext c139).ext c145).ext c150).ext c157).ext cw'160
 have f840 := (f838.ext c700).ext cb701
 have f841 := f840.chg cw703 (by omega)
 have f843 := (f841.ext c718).ext cb719
 have f844 := f843.chg cw721 (by omega)
 have f846 := (f844.ext c737).ext cb738
 have f847 := f846.chg cw740 (by omega)
 have f849 := (f714.ext c718).ext cb719
 have f850 := f849.chg cw721 (by omega)
 have f852 := (f850.ext c737).ext cb738
 have f853 := f852.chg cw740 (by omega)
 have f855 := (f736.ext c737).ext cb738
 have f856 := f855.chg cw740 (by omega)
 have f861 := ((((f137.ext c139).ext c145).ext c150).ext c157).ext cw'160
 have f863 := (f861.ext c700).ext cb701
 have f864 := f863.chg cw703 (by omega)
 have f866 := (f864.ext c718).ext cb719
 have f867 := f866.chg cw721 (by omega)
 have f869 := (f867.ext c737).ext cb738
 have f870 := f869.chg cw740 (by omega)
 have f872 := (f155.ext c157).ext cw'160
 have f874 := (f872.ext c700).ext cb701
 have f875 := f874.chg cw703 (by omega)
 have f877 := (f875.ext c718).ext cb719
 have f878 := f877.chg cw721 (by omega)
 have f880 := (f878.ext c737).ext cb738
 have f881 := f880.chg cw740 (by omega)
 have f885 := (((f144.ext c145).ext c150).ext c157).ext cw'160
 have f887 := (f885.ext c700).ext cb701
 have f888 := f887.chg cw703 (by omega)
 have f890 := (f888.ext c718).ext cb719
 have f891 := f890.chg cw721 (by omega)
 have f893 := (f891.ext c737).ext cb738
 have f894 := f893.chg cw740 (by omega)
 have f896 := (xgs160x1.ext c700).ext cb701
 have f897 := f896.chg cw703 (by omega)
 have f899 := (f897.ext c718).ext cb719
 have f900 := f899.chg cw721 (by omega)
 have f902 := (f900.ext c737).ext cb738
 have f903 := f902.chg cw740 (by omega)
 have f905 := (xgs160x2.ext c700).ext cb701
 have f906 := f905.chg cw703 (by omega)
 have f908 := (f906.ext c718).ext cb719
 have f909 := f908.chg cw721 (by omega)
 have f911 := (f909.ext c737).ext cb738
 have f912 := f911.chg cw740 (by omega)
 have f914 := (xgs160x4.ext c700).ext cb701
 have f915 := f914.chg cw703 (by omega)
 have f917 := (f915.ext c718).ext cb719
 have f918 := f917.chg cw721 (by omega)
 have f920 := (f918.ext c737).ext cb738
 have f921 := f920.chg cw740 (by omega)
 have f923 := (xgs160x5.ext c700).ext cb701
 have f924 := f923.chg cw703 (by omega)
 have f926 := (f924.ext c718).ext cb719
 have f927 := f926.chg cw721 (by omega)
 have f929 := (f927.ext c737).ext cb738
 have f930 := f929.chg cw740 (by omega)
 have f932 := (f733.ext c737).ext cb738
 have f933 := f932.chg cw740 (by omega)
 have f934 := f722.chg cw721 (by omega)
 have f936 := (f934.ext c737).ext cb738
 have f937 := f936.chg cw740 (by omega)
 have f938 := f741.chg cw740 (by omega)
 refine dx_region (fun w' => Chg 0 0 w740 w') (by kernel_rfl) (Chg.zero (Chg.drew _)) ?_
 have d939 := Chg.drew w740
 have s939 : Chg 0 0 w740 (World.drew w740) := Chg.zero (Chg.drew _)
 have y939 : (World.drew w740).heap.size = w740.heap.size := rfl
 generalize World.drew w740 = w939 at *
 have zw939 := d939.size
 refine dt 0 rfl rfl rfl rfl s939 (fun _ hS => px_move rfl) ?_
 refine dt 1 rfl rfl rfl rfl s939 (fun _ hS => px_move rfl) ?_
 refine dx_takeG 2 rfl rfl rfl rfl rfl rfl (by kernel_rfl) (by kernel_rfl) (by kernel_rfl) s939 (fun _ hS => px_move rfl) ?_
 refine dt 3 rfl rfl rfl rfl s939 (fun _ hS => px_pick rfl rfl) ?_
 refine dt 4 rfl rfl rfl rfl s939 (fun _ hS => px_move rfl) ?_
 refine dx_takeG 5 rfl rfl rfl rfl rfl rfl (by kernel_rfl) (by kernel_rfl) (by kernel_rfl) s939 (fun _ hS => px_move rfl) ?_
 refine dt 6 rfl rfl rfl rfl s939 (fun _ hS => px_pick rfl rfl) ?_
 refine dt 7 rfl rfl rfl rfl s939 (fun _ hS => px_move rfl) ?_
 refine dx_takeG 8 rfl rfl rfl rfl rfl rfl (by kernel_rfl) (by kernel_rfl) (by kernel_rfl) s939 (fun _ hS => px_load rfl ((f829.chg hS (by omega)).loadA (vs := [.bool (ng (sumD (x6) p6 (y6) q6)), s700, .int .i64 (max p6 q6)]) (look_lit rfl) Tryz.isAgg27 Tryz.sizeOf27)) ?_
 refine dx_takeG 10 rfl rfl rfl rfl rfl rfl (by kernel_rfl) (by kernel_rfl) (by kernel_rfl) s939 (fun _ hS => px_load rfl ((f817.chg hS (by omega)).loadA (vs := [.bool (ng (ratN (x6) p6)), gs160x1, gs160x2]) (look_lit rfl) Tryz.isAgg37 Tryz.sizeOf37)) ?_
 refine dx_takeG 11 rfl rfl rfl rfl rfl rfl (by kernel_rfl) (by kernel_rfl) (by kernel_rfl) s939 (fun _ hS => px_load rfl ((f826.chg hS (by omega)).loadA (vs := [.bool (ng (ratN (y6) q6)), gs160x4, gs160x5]) (look_lit rfl) Tryz.isAgg37 Tryz.sizeOf37)) ?_
 refine dx_eff 9 rfl (by kernel_rfl) ?_
 refine sx_guardT rfl rfl rfl ?_
 have f940 := f933.ext d939
 refine sx_call rfl rfl Tryz.call11 (c_iDecRatD f940.sv (by first | assumption | exact (sum_dok hbx.1 hbx.2 hbp.1 hbp.2).1 | exact mul_dok hbx.1 hbx.2 hbp.1 hbp.2) (by omega)) (fun v941 w941 p941 => ?_)
 obtain ⟨s941, t941, ls941, us941, lt941, ut941, rfl, os_941, ot_941, hd941, hK941, hl941, hv941, c941⟩ := p941
 have zw941 := c941.size
 have s942 : Chg 0 0 w740 w941 := (d939.t c941)
 refine wl_nil ?_
 refine dx_next s942 ?_
 refine dx_eff 12 rfl (by kernel_rfl) ?_
 refine sx_guardT rfl rfl rfl ?_
 have f944 := (f903.ext d939).ext c941
 have f946 := (f912.ext d939).ext c941
 have f948 := (f921.ext d939).ext c941
 have f950 := (f930.ext d939).ext c941
 refine sx_call rfl rfl Tryz.call17 (c_iRatAddK f944.sv f946.sv f948.sv f950.sv (by assumption) (by assumption) (by omega)) (fun v951 w951 p951 => ?_)
 obtain ⟨s951, t951, ls951, us951, lt951, ut951, xx951, ee951, rfl, os_951, ot_951, hd951, hK951, hv951, c951⟩ := p951
 have zw951 := c951.size
 have s952 : Chg 0 0 w740 w951 := ((d939.t c941).t c951)
 refine wl_nil ?_
 refine dx_next s952 ?_
 refine dx_takeG 13 rfl rfl rfl rfl rfl rfl (by kernel_rfl) (by kernel_rfl) (by kernel_rfl) s952 (fun _ hS => px_ex2 rfl rfl) ?_
 refine dx_takeG 14 rfl rfl rfl rfl rfl rfl (by kernel_rfl) (by kernel_rfl) (by kernel_rfl) s952 (fun _ hS => px_ex2 rfl rfl) ?_
 refine dx_eff 15 rfl (by kernel_rfl) ?_
 refine sx_guardT rfl rfl rfl ?_
 refine sx_call rfl rfl Tryz.call16 (c_must os_951.sv ot_951.sv) (fun v953 w953 p953 => ?_)
 obtain ⟨rfl, c953⟩ := p953
 have zw953 := c953.size
 have s954 : Chg 0 0 w740 w953 := (((d939.t c941).t c951).t c953)
 refine wl_nil ?_
 refine dx_next s954 ?_
 refine dx_eff 16 rfl (by kernel_rfl) ?_
 refine sx_guardT rfl rfl rfl ?_
 have f956 := (os_941.ext c951).ext c953
 have f958 := (ot_941.ext c951).ext c953
 have f959 := os_951.ext c953
 have f960 := ot_951.ext c953
 refine sx_call rfl rfl Tryz.call15 (c_iRatCmpK f956.sv f958.sv f959.sv f960.sv (by assumption) (by assumption)) (fun v961 w961 p961 => ?_)
 obtain ⟨rfl, c961⟩ := p961
 have zw961 := c961.size
 have s962 : Chg 0 0 w740 w961 := ((((d939.t c941).t c951).t c953).t c961)
 refine wl_nil ?_
 refine dx_next s962 ?_
 refine dx_takeG 17 rfl rfl rfl rfl rfl rfl (by kernel_rfl) (by kernel_rfl) (by kernel_rfl) s962 (fun _ hS => px_eq rfl rfl) ?_
 refine dt 18 rfl rfl rfl rfl s962 (fun _ hS => px_pick rfl rfl) ?_
 refine dt 19 rfl rfl rfl rfl s962 (fun _ hS => px_move rfl) ?_
 have h390 : (cmpI ((ratN (sumD (x6) p6 (y6) q6) (max p6 q6)) * ((ee951 : Nat) : Int)) ((xx951) * (((ratE (sumD (x6) p6 (y6) q6) (max p6 q6)) : Nat) : Int)) : Int) = 0 := sum_rat (x := x6) (p := p6) (y := y6) (q := q6) hbp.1.1 hbp.2.1 (dRat_form hd1 (by omega)).2.2.2 (dRat_form hd2 (by omega)).2.2.2 (dRat_form (sum_dok hbx.1 hbx.2 hbp.1 hbp.2).1 (by omega)).2.2.2 ⟨(ROk_iff.1 (dRat_form hd1 (by omega)).2.1).1, (ROk_iff.1 (dRat_form hd2 (by omega)).2.1).1⟩ (by assumption)
 refine dx_tmpPT (t := 121) rfl h390 ?_
 refine dx_takeG 20 rfl rfl rfl rfl rfl rfl (by kernel_rfl) (by kernel_rfl) (by kernel_rfl) s962 (fun _ hS => px_load rfl ((f832.chg hS (by omega)).loadA (vs := [.bool (ng ((x6) * (y6))), s718, .int .i64 (p6 + q6)]) (look_lit rfl) Tryz.isAgg27 Tryz.sizeOf27)) ?_
 refine dx_takeG 22 rfl rfl rfl rfl rfl rfl (by kernel_rfl) (by kernel_rfl) (by kernel_rfl) s962 (fun _ hS => px_load rfl ((f817.chg hS (by omega)).loadA (vs := [.bool (ng (ratN (x6) p6)), gs160x1, gs160x2]) (look_lit rfl) Tryz.isAgg37 Tryz.sizeOf37)) ?_
 refine dx_takeG 23 rfl rfl rfl rfl rfl rfl (by kernel_rfl) (by kernel_rfl) (by kernel_rfl) s962 (fun _ hS => px_load rfl ((f826.chg hS (by omega)).loadA (vs := [.bool (ng (ratN (y6) q6)), gs160x4, gs160x5]) (look_lit rfl) Tryz.isAgg37 Tryz.sizeOf37)) ?_
 refine dx_eff 21 rfl (by kernel_rfl) ?_
 refine sx_guardT rfl rfl rfl ?_
 have f967 := ((((f937.ext d939).ext c941).ext c951).ext c953).ext c961
 refine sx_call rfl rfl Tryz.call11 (c_iDecRatD f967.sv (by first | assumption | exact (sum_dok hbx.1 hbx.2 hbp.1 hbp.2).1 | exact mul_dok hbx.1 hbx.2 hbp.1 hbp.2) (by omega)) (fun v968 w968 p968 => ?_)
 obtain ⟨s968, t968, ls968, us968, lt968, ut968, rfl, os_968, ot_968, hd968, hK968, hl968, hv968, c968⟩ := p968
 have zw968 := c968.size
 have s969 : Chg 0 0 w740 w968 := (((((d939.t c941).t c951).t c953).t c961).t c968)
 refine wl_nil ?_
 refine dx_next s969 ?_
 refine dx_eff 24 rfl (by kernel_rfl) ?_
 refine sx_guardT rfl rfl rfl ?_
 have f973 := (((f944.ext c951).ext c953).ext c961).ext c968
 have f977 := (((f946.ext c951).ext c953).ext c961).ext c968
 have f981 := (((f948.ext c951).ext c953).ext c961).ext c968
 have f985 := (((f950.ext c951).ext c953).ext c961).ext c968
 refine sx_call rfl rfl Tryz.call18 (c_iRatMulM f973.sv f977.sv f981.sv f985.sv (by assumption) (by assumption) (by omega)) (fun v986 w986 p986 => ?_)
 obtain ⟨s986, t986, ls986, us986, lt986, ut986, xx986, ee986, rfl, os_986, ot_986, hd986, hK986, hv986, c986⟩ := p986
 have zw986 := c986.size
 have s987 : Chg 0 0 w740 w986 := ((((((d939.t c941).t c951).t c953).t c961).t c968).t c986)
 refine wl_nil ?_
 refine dx_next s987 ?_
 refine dx_takeG 25 rfl rfl rfl rfl rfl rfl (by kernel_rfl) (by kernel_rfl) (by kernel_rfl) s987 (fun _ hS => px_ex2 rfl rfl) ?_
 refine dx_takeG 26 rfl rfl rfl rfl rfl rfl (by kernel_rfl) (by kernel_rfl) (by kernel_rfl) s987 (fun _ hS => px_ex2 rfl rfl) ?_
 refine dx_eff 27 rfl (by kernel_rfl) ?_
 refine sx_guardT rfl rfl rfl ?_
 refine sx_call rfl rfl Tryz.call16 (c_must os_986.sv ot_986.sv) (fun v988 w988 p988 => ?_)
 obtain ⟨rfl, c988⟩ := p988
 have zw988 := c988.size
 have s989 : Chg 0 0 w740 w988 := (((((((d939.t c941).t c951).t c953).t c961).t c968).t c986).t c988)
 refine wl_nil ?_
 refine dx_next s989 ?_
 refine dx_eff 28 rfl (by kernel_rfl) ?_
 refine sx_guardT rfl rfl rfl ?_
 have f991 := (os_968.ext c986).ext c988
 have f993 := (ot_968.ext c986).ext c988
 have f994 := os_986.ext c988
 have f995 := ot_986.ext c988
 refine sx_call rfl rfl Tryz.call15 (c_iRatCmpK f991.sv f993.sv f994.sv f995.sv (by assumption) (by assumption)) (fun v996 w996 p996 => ?_)
 obtain ⟨rfl, c996⟩ := p996
 have zw996 := c996.size
 have s997 : Chg 0 0 w740 w996 := ((((((((d939.t c941).t c951).t c953).t c961).t c968).t c986).t c988).t c996)
 refine wl_nil ?_
 refine dx_next s997 ?_
 refine dx_takeG 29 rfl rfl rfl rfl rfl rfl (by kernel_rfl) (by kernel_rfl) (by kernel_rfl) s997 (fun _ hS => px_eq rfl rfl) ?_
 refine dt 30 rfl rfl rfl rfl s997 (fun _ hS => px_pick rfl rfl) ?_
 refine dt 31 rfl rfl rfl rfl s997 (fun _ hS => px_move rfl) ?_
 have h390x1 : (cmpI ((ratN ((x6) * (y6)) (p6 + q6)) * ((ee986 : Nat) : Int)) ((xx986) * (((ratE ((x6) * (y6)) (p6 + q6)) : Nat) : Int)) : Int) = 0 := mul_rat (x := x6) (p := p6) (y := y6) (q := q6) hbp.1.1 hbp.2.1 (dRat_form hd1 (by omega)).2.2.2 (dRat_form hd2 (by omega)).2.2.2 (dRat_form (mul_dok hbx.1 hbx.2 hbp.1 hbp.2) (by omega)).2.2.2 ⟨(ROk_iff.1 (dRat_form hd1 (by omega)).2.1).1, (ROk_iff.1 (dRat_form hd2 (by omega)).2.1).1⟩ (by assumption)
 refine dx_tmpPT (t := 133) rfl h390x1 ?_
 refine dx_takeG 32 rfl rfl rfl rfl rfl rfl (by kernel_rfl) (by kernel_rfl) (by kernel_rfl) s997 (fun _ hS => px_load rfl ((gw740.chg hS (by omega)).loadA (vs := [.bool (ng (subD (sumD (x6) p6 (y6) q6) (max p6 q6) (y6) q6)), s737, .int .i64 (max (max p6 q6) q6)]) (look_lit rfl) Tryz.isAgg27 Tryz.sizeOf27)) ?_
 refine dx_takeG 33 rfl rfl rfl rfl rfl rfl (by kernel_rfl) (by kernel_rfl) (by kernel_rfl) s997 (fun _ hS => px_load rfl ((f760.chg hS (by omega)).loadA (vs := [.bool (ng x6), s6, .int .i64 p6]) (look_lit rfl) Tryz.isAgg27 Tryz.sizeOf27)) ?_
 refine dx_eff 34 rfl (by kernel_rfl) ?_
 refine sx_guardT rfl rfl rfl ?_
 have f1006 := ((((((((f938.ext d939).ext c941).ext c951).ext c953).ext c961).ext c968).ext c986).ext c988).ext c996
 have f1015 := ((((((((f853.ext d939).ext c941).ext c951).ext c953).ext c961).ext c968).ext c986).ext c988).ext c996
 refine sx_call rfl rfl Tryz.call10 (c_iDecCmp f1006.sv f1015 (by omega)) (fun v1016 w1016 p1016 => ?_)
 obtain ⟨rfl, c1016⟩ := p1016
 have zw1016 := c1016.size
 have s1017 : Chg 0 0 w740 w1016 := (((((((((d939.t c941).t c951).t c953).t c961).t c968).t c986).t c988).t c996).t c1016)
 refine wl_nil ?_
 refine dx_next s1017 ?_
 refine dx_takeG 35 rfl rfl rfl rfl rfl rfl (by kernel_rfl) (by kernel_rfl) (by kernel_rfl) s1017 (fun _ hS => px_eq rfl rfl) ?_
 refine dt 36 rfl rfl rfl rfl s1017 (fun _ hS => px_pick rfl rfl) ?_
 refine dt 37 rfl rfl rfl rfl s1017 (fun _ hS => px_move rfl) ?_
 have h390x2 : (dCmp (ng (subD (sumD (x6) p6 (y6) q6) (max p6 q6) (y6) q6)) (dg (subD (sumD (x6) p6 (y6) q6) (max p6 q6) (y6) q6).natAbs) (max (max p6 q6) q6) (ng x6) (dg (x6).natAbs) p6 : Int) = 0 := sub_cmp hbx.1 hbp.1 hbp.2
 refine dx_tmpPT (t := 139) rfl h390x2 ?_
 refine dx_takeG 38 rfl rfl rfl rfl rfl rfl (by kernel_rfl) (by kernel_rfl) (by kernel_rfl) s1017 (fun _ hS => px_load rfl ((f760.chg hS (by omega)).loadA (vs := [.bool (ng x6), s6, .int .i64 p6]) (look_lit rfl) Tryz.isAgg27 Tryz.sizeOf27)) ?_
 refine dx_takeG 39 rfl rfl rfl rfl rfl rfl (by kernel_rfl) (by kernel_rfl) (by kernel_rfl) s1017 (fun _ hS => px_load rfl ((f763.chg hS (by omega)).loadA (vs := [.bool (ng y6), t6, .int .i64 q6]) (look_lit rfl) Tryz.isAgg27 Tryz.sizeOf27)) ?_
 refine dx_takeG 41 rfl rfl rfl rfl rfl rfl (by kernel_rfl) (by kernel_rfl) (by kernel_rfl) s1017 (fun _ hS => px_load rfl ((f817.chg hS (by omega)).loadA (vs := [.bool (ng (ratN (x6) p6)), gs160x1, gs160x2]) (look_lit rfl) Tryz.isAgg37 Tryz.sizeOf37)) ?_
 refine dx_takeG 42 rfl rfl rfl rfl rfl rfl (by kernel_rfl) (by kernel_rfl) (by kernel_rfl) s1017 (fun _ hS => px_load rfl ((f826.chg hS (by omega)).loadA (vs := [.bool (ng (ratN (y6) q6)), gs160x4, gs160x5]) (look_lit rfl) Tryz.isAgg37 Tryz.sizeOf37)) ?_
 refine dx_eff 40 rfl (by kernel_rfl) ?_
 refine sx_guardT rfl rfl rfl ?_
 have f1018 := f1015.ext c1016
 have f1028 := (((((((((f856.ext d939).ext c941).ext c951).ext c953).ext c961).ext c968).ext c986).ext c988).ext c996).ext c1016
 refine sx_call rfl rfl Tryz.call10 (c_iDecCmp f1018 f1028 (by omega)) (fun v1029 w1029 p1029 => ?_)
 obtain ⟨rfl, c1029⟩ := p1029
 have zw1029 := c1029.size
 have s1030 : Chg 0 0 w740 w1029 := ((((((((((d939.t c941).t c951).t c953).t c961).t c968).t c986).t c988).t c996).t c1016).t c1029)
 refine wl_nil ?_
 refine dx_next s1030 ?_
 refine dx_eff 43 rfl (by kernel_rfl) ?_
 refine sx_guardT rfl rfl rfl ?_
 have f1035 := ((((f973.ext c986).ext c988).ext c996).ext c1016).ext c1029
 have f1040 := ((((f977.ext c986).ext c988).ext c996).ext c1016).ext c1029
 have f1045 := ((((f981.ext c986).ext c988).ext c996).ext c1016).ext c1029
 have f1050 := ((((f985.ext c986).ext c988).ext c996).ext c1016).ext c1029
 refine sx_call rfl rfl Tryz.call15 (c_iRatCmpK f1035.sv f1040.sv f1045.sv f1050.sv (by assumption) (by assumption)) (fun v1051 w1051 p1051 => ?_)
 obtain ⟨rfl, c1051⟩ := p1051
 have zw1051 := c1051.size
 have s1052 : Chg 0 0 w740 w1051 := (((((((((((d939.t c941).t c951).t c953).t c961).t c968).t c986).t c988).t c996).t c1016).t c1029).t c1051)
 refine wl_nil ?_
 refine dx_next s1052 ?_
 refine dx_takeG 44 rfl rfl rfl rfl rfl rfl (by kernel_rfl) (by kernel_rfl) (by kernel_rfl) s1052 (fun _ hS => px_eq rfl rfl) ?_
 refine dt 45 rfl rfl rfl rfl s1052 (fun _ hS => px_pick rfl rfl) ?_
 refine dt 46 rfl rfl rfl rfl s1052 (fun _ hS => px_assign rfl) ?_
 refine dx_done (by kernel_rfl) ?_
 refine q_n (k742 _ _ ?_)
 refine sx_sub (Sub.c 2 rfl .nil) ?_
 refine sx_retc ?_
 refine sx_ret1 Tryz.results3 rfl ?_
 have q1053 := Chg.step (l := 0) (h := 0) (Chg.zero (l := 0) (h := 0) ((c6.t cb7).t cb9)) cw11 (by omega)
 have q1054 := Chg.step (l := 0) (h := 0) q1053 cw15 (by omega)
 have q1055 := Chg.step (l := 0) (h := 0) q1054 ((c29.t c31).t cb32) (by omega)
 have q1056 := Chg.step (l := 0) (h := 0) q1055 cw34 (by omega)
 have q1057 := Chg.step (l := 0) (h := 0) q1056 (c45.t cb46) (by omega)
 have q1058 := Chg.step (l := 0) (h := 0) q1057 cw48 (by omega)
 have q1059 := Chg.step (l := 0) (h := 0) q1058 (c55.t cb56) (by omega)
 have q1060 := Chg.step (l := 0) (h := 0) q1059 cw58 (by omega)
 have q1061 := Chg.step (l := 0) (h := 0) q1060 (((((((d136.t c139).t c145).t c150).t c157).t cw'160).t c700).t cb701) (by omega)
 have q1062 := Chg.step (l := 0) (h := 0) q1061 cw703 (by omega)
 have q1063 := Chg.step (l := 0) (h := 0) q1062 (c718.t cb719) (by omega)
 have q1064 := Chg.step (l := 0) (h := 0) q1063 cw721 (by omega)
 have q1065 := Chg.step (l := 0) (h := 0) q1064 (c737.t cb738) (by omega)
 have q1066 := Chg.step (l := 0) (h := 0) q1065 cw740 (by omega)
 have q1067 := Chg.step (l := 0) (h := 0) q1066 (((((((((((d939.t c941).t c951).t c953).t c961).t c968).t c986).t c988).t c996).t c1016).t c1029).t c1051) (by omega)
 exact ⟨(bTrue (cmp_rat hd1 hd2 (dRat_form hd1 (by omega)).2.2.2 (dRat_form hd2 (by omega)).2.2.2 ⟨(ROk_iff.1 (dRat_form hd1 (by omega)).2.1).1, (ROk_iff.1 (dRat_form hd2 (by omega)).2.1).1⟩)).symm, q1067⟩

end Go.Proofs.YtoeclobdbblohaaGreatDoor
