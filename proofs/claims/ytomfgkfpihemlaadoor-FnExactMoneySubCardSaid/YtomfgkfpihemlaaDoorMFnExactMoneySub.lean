/- Contracts of functions of the program: what each call returns, and that it changes nothing that was. Conditions: as each says. -/
import Derived.Test.YtomfgkfpihemlaaDoorTy
import Derived.Test.YtomfgkfpihemlaaDoorNatE
import Derived.Test.YtomfgkfpihemlaaDoorK0
import Derived.Test.YtomfgkfpihemlaaDoorK2
set_option linter.unusedVariables false
set_option linter.unusedSimpArgs false
namespace Go.Proofs.YtomfgkfpihemlaaDoor
open Go Go.RowKit
set_option maxRecDepth 100000
theorem law_MoneySub {w : World} {c1 : ByteArray} {n1 : Bool} {v1 : Value} {lv1 uv1 : Nat} {z1 : List Int} {c2 : ByteArray} {n2 : Bool} {v2 : Value} {lv2 uv2 : Nat} {z2 : List Int} (hG0 : Glob w) (hv1 : Sl w lv1 uv1 v1 (z1)) (hv2 : Sl w lv2 uv2 v2 (z2)) (bc1 : c1.size ≤ 9223372036854775807) (bz1 : z1.length ≤ 9223372036854775807) (bc2 : c2.size ≤ 9223372036854775807) (bz2 : z2.length ≤ 9223372036854775807) :
  Ret Tryd.prog 13 [.agg #[.string c1, .bool n1, v1], .agg #[.string c2, .bool n2, v2]] w fun v w' => v = .bool (true) ∧ Chg 0 0 w w' := by
 have hv10 := hv1.fit
 have hv20 := hv2.fit
 have hG0l : 0 < w.heap.size := by obtain ⟨T, fz, h1⟩ := hG0; rcases Nat.lt_or_ge 0 w.heap.size with h2 | h2; exact h2; simp [Array.getElem?_eq_none h2] at h1
 refine sx_enter Tryd.func13 rfl Tryd.ntmps13 (Nat.le_of_ble_eq_true rfl) ?_
 refine sx_seq fun K1 k1 => sx_region ?_
 refine sx_box [.string c1, .bool n1, v1] rfl rfl rfl (fun b2 w3 eb2 sb2 fb2 cb2 => ?_)
 have zw3 := cb2.size
 refine sx_box [.string c2, .bool n2, v2] rfl rfl rfl (fun b4 w5 eb4 sb4 fb4 cb4 => ?_)
 have zw5 := cb4.size
 refine sa rfl rfl rfl rfl ?_
 refine wl_nil (q_n (k1 _ _ ?_))
 refine sx_seq fun K6 k6 => sx_region ?_
 refine sa rfl rfl rfl rfl ?_
 refine wl_nil (q_n (k6 _ _ ?_))
 refine sx_seq fun K7 k7 => sx_region ?_
 have f8 := fb2.ext cb4
 refine sx_pure rfl rfl rfl (px_load rfl (f8.loadA (vs := [.string c1, .bool n1, v1]) (look_lit rfl) Tryd.isAgg26 Tryd.sizeOf26)) ?_
 refine sm rfl rfl rfl rfl ?_
 have f9 := hv10.ext cb2
 have f10 := f9.ext cb4
 refine sx_call rfl rfl Tryd.call15 (c_szMoney f10 (by omega) (by omega) (by omega)) (fun v11 w11 p11 => ?_)
 obtain ⟨r11, rfl, hr11, c11⟩ := p11
 have zw11 := c11.size
 refine sa rfl rfl rfl rfl ?_
 refine wl_nil (q_n (k7 _ _ ?_))
 refine sx_seq fun K12 k12 => ?_
 refine sx_seq fun K13 k13 => sx_region ?_
 refine sm rfl rfl rfl rfl ?_
 refine sx_pure rfl rfl rfl (px_lt rfl rfl) ?_
 refine wl_nil (q_n (k13 _ _ ?_))
 refine sx_condP rfl (fun h5044 => ?_) (fun h5044 => ?_)
 ·
  refine sx_seq fun K14 k14 => sx_region ?_
  refine sa rfl rfl rfl rfl ?_
  refine wl_nil (q_n (k14 _ _ ?_))
  refine sx_retc ?_
  refine q_r (sx_ret1 Tryd.results13 rfl ?_)
  exact ⟨rfl, ((cb2.t cb4).t c11)⟩
 ·
  refine sx_skip ?_
  refine q_n (k12 _ _ ?_)
  refine sx_seq fun K15 k15 => sx_region ?_
  have f16 := fb4.ext c11
  refine sx_pure rfl rfl rfl (px_load rfl (f16.loadA (vs := [.string c2, .bool n2, v2]) (look_lit rfl) Tryd.isAgg26 Tryd.sizeOf26)) ?_
  refine sm rfl rfl rfl rfl ?_
  have f17 := hv20.ext cb2
  have f18 := f17.ext cb4
  have f19 := f18.ext c11
  refine sx_call rfl rfl Tryd.call15 (c_szMoney f19 (by omega) (by omega) (by omega)) (fun v20 w20 p20 => ?_)
  obtain ⟨r20, rfl, hr20, c20⟩ := p20
  have zw20 := c20.size
  refine sa rfl rfl rfl rfl ?_
  refine wl_nil (q_n (k15 _ _ ?_))
  refine sx_seq fun K21 k21 => ?_
  refine sx_seq fun K22 k22 => sx_region ?_
  refine sm rfl rfl rfl rfl ?_
  refine sx_pure rfl rfl rfl (px_lt rfl rfl) ?_
  refine wl_nil (q_n (k22 _ _ ?_))
  refine sx_sub (Sub.cons (t := 2) rfl (.cons (t := 3) rfl (.cons (t := 4) rfl (.cons (t := 26) rfl (.nil))))) ?_
  refine sx_condP rfl (fun h5048 => ?_) (fun h5048 => ?_)
  ·
   refine sx_seq fun K23 k23 => sx_region ?_
   refine sa rfl rfl rfl rfl ?_
   refine wl_nil (q_n (k23 _ _ ?_))
   refine sx_retc ?_
   refine q_r (sx_ret1 Tryd.results13 rfl ?_)
   exact ⟨rfl, (((cb2.t cb4).t c11).t c20)⟩
  ·
   refine sx_skip ?_
   refine q_n (k21 _ _ ?_)
   refine sx_seq fun K24 k24 => ?_
   refine sx_cut k24 (fun fr w' => ∃ (gb25x0 : Nat) (gs25x1 : Value) (gl25x1 : Nat) (gu25x1 : Nat), fr = [(2, .pointer (some ⟨b2, 0, none⟩)), (3, .pointer (some ⟨b4, 0, none⟩)), (4, .bool false), (6, .pointer (some ⟨gb25x0, 0, none⟩)), (7, .bool ((mBin gSub c1 n1 z1 c2 n2 z2).2.2.2))] ∧ Chg 0 0 w20 w' ∧ (Blk w' gb25x0 [.string ((mBin gSub c1 n1 z1 c2 n2 z2).1), .bool ((mBin gSub c1 n1 z1 c2 n2 z2).2.1), gs25x1] 31) ∧ (Own w' gl25x1 gu25x1 gs25x1 intT (((mBin gSub c1 n1 z1 c2 n2 z2).2.2.1).length) 1 (((mBin gSub c1 n1 z1 c2 n2 z2).2.2.1).map (Value.int .i64))) ∧ (w20.heap.size ≤ gb25x0 ∧ gb25x0 + 1 ≤ w'.heap.size) ∧ (w20.heap.size ≤ gl25x1 ∧ gu25x1 ≤ w'.heap.size) ∧ (gu25x1 ≤ gb25x0 ∨ gb25x0 + 1 ≤ gl25x1)) (fun kc25 => ?_) ?_
   ·
    have f26 := hG0.ext cb2
    have f27 := f26.ext cb4
    have f28 := f27.ext c11
    have f29 := f28.ext c20
    have f30 := f8.ext c11
    have f31 := f30.ext c20
    have f32 := f16.ext c20
    have f33 := f10.ext c11
    have f34 := f33.ext c20
    have f35 := f19.ext c20
    refine dx_region (fun w' => Chg 0 0 w20 w') (by kernel_rfl) (Chg.zero (Chg.drew _)) ?_
    have d36 := Chg.drew w20
    have s36 : Chg 0 0 w20 (World.drew w20) := Chg.zero (Chg.drew _)
    have y36 : (World.drew w20).heap.size = w20.heap.size := rfl
    generalize World.drew w20 = w36 at *
    have zw36 := d36.size
    refine dx_take 0 rfl rfl rfl rfl (by kernel_rfl) (by kernel_rfl) (by kernel_rfl) s36 (fun _ hS => px_load rfl ((f31.chg hS (by omega)).loadA (vs := [.string c1, .bool n1, v1]) (look_lit rfl) Tryd.isAgg26 Tryd.sizeOf26)) ?_
    refine dx_take 2 rfl rfl rfl rfl (by kernel_rfl) (by kernel_rfl) (by kernel_rfl) s36 (fun _ hS => px_load rfl ((f32.chg hS (by omega)).loadA (vs := [.string c2, .bool n2, v2]) (look_lit rfl) Tryd.isAgg26 Tryd.sizeOf26)) ?_
    refine dx_eff2 1 8 rfl rfl (by kernel_rfl) ?_ ?_
    ·
     have f37 := f34.ext d36
     refine sx_call rfl rfl Tryd.call17 (c_toMoney f37 (by omega)) (fun v38 w38 p38 => ?_)
     obtain ⟨s238, rfl, os2_38, c38⟩ := p38
     have zw38 := c38.size
     have s39 : Chg 0 0 w20 w38 := (d36.t c38)
     refine wl_nil ?_
     refine dx_next s39 ?_
     refine dx_eff2 3 8 rfl rfl (by kernel_rfl) ?_ ?_
     ·
      have f40 := f35.ext d36
      have f41 := f40.ext c38
      refine sx_call rfl rfl Tryd.call17 (c_toMoney f41 (by omega)) (fun v42 w42 p42 => ?_)
      obtain ⟨s242, rfl, os2_42, c42⟩ := p42
      have zw42 := c42.size
      have s43 : Chg 0 0 w20 w42 := ((d36.t c38).t c42)
      refine wl_nil ?_
      refine dx_next s43 ?_
      refine dx_eff2 4 8 rfl rfl (by kernel_rfl) ?_ ?_
      ·
       have f44 := os2_38.ext c42
       refine sx_call rfl rfl Tryd.call49 (c_sMoneySub f44.sv os2_42.sv (by omega)) (fun v45 w45 p45 => ?_)
       obtain ⟨s45, rfl, os_45, hl45, c45⟩ := p45
       have zw45 := c45.size
       have s46 : Chg 0 0 w20 w45 := (((d36.t c38).t c42).t c45)
       refine wl_nil ?_
       refine dx_next s46 ?_
       refine dx_take 5 rfl rfl rfl rfl (by kernel_rfl) (by kernel_rfl) (by kernel_rfl) s46 (fun _ hS => px_move rfl) ?_
       refine dx_take 6 rfl rfl rfl rfl (by kernel_rfl) (by kernel_rfl) (by kernel_rfl) s46 (fun _ hS => px_extract (vs := [.agg #[.string ((mBin gSub c1 n1 z1 c2 n2 z2).1), .bool ((mBin gSub c1 n1 z1 c2 n2 z2).2.1), s45], .bool ((mBin gSub c1 n1 z1 c2 n2 z2).2.2.2)]) rfl rfl) ?_
       refine dx_take 7 rfl rfl rfl rfl (by kernel_rfl) (by kernel_rfl) (by kernel_rfl) s46 (fun _ hS => px_extract (vs := [.agg #[.string ((mBin gSub c1 n1 z1 c2 n2 z2).1), .bool ((mBin gSub c1 n1 z1 c2 n2 z2).2.1), s45], .bool ((mBin gSub c1 n1 z1 c2 n2 z2).2.2.2)]) rfl rfl) ?_
       refine dx_eff 8 rfl (by kernel_rfl) ?_
       refine sx_alloc [.string (⟨#[]⟩), .bool false, (.slice none 0 0)] rfl Tryd.zeroValue31 rfl (fun b47 w48 eb47 sb47 fb47 cb47 => ?_)
       have zw48 := cb47.size
       have s49 : Chg 0 0 w20 w48 := ((((d36.t c38).t c42).t c45).t cb47)
       refine wl_nil ?_
       refine dx_next s49 ?_
       refine dx_eff 9 rfl (by kernel_rfl) ?_
       have f51 := os_45.ext cb47
       refine sx_store (vs := [.string ((mBin gSub c1 n1 z1 c2 n2 z2).1), .bool ((mBin gSub c1 n1 z1 c2 n2 z2).2.1), s45]) rfl rfl fb47 rfl Tryd.sizeOf31 (Nat.le_of_ble_eq_true rfl) (one_cons rfl (one_cons rfl (one_cons f51.one one_nil))) (fun w50 sw50 fw50 cw50 => ?_)
       have zw50 := cw50.size
       have gw50 : Blk w50 b47 [.string ((mBin gSub c1 n1 z1 c2 n2 z2).1), .bool ((mBin gSub c1 n1 z1 c2 n2 z2).2.1), s45] 31 := fw50
       have q53 := Chg.step (l := 0) (h := 0) (Chg.zero (l := 0) (h := 0) ((((d36.t c38).t c42).t c45).t cb47)) cw50 (by omega)
       have s52 : Chg 0 0 w20 w50 := q53
       refine wl_nil ?_
       refine dx_next s52 ?_
       refine dx_take 10 rfl rfl rfl rfl (by kernel_rfl) (by kernel_rfl) (by kernel_rfl) s52 (fun _ hS => px_assign rfl) ?_
       refine dx_done (by kernel_rfl) ?_
       have f54 := f51.chg cw50 (by omega)
       have q55 := Chg.step (l := 0) (h := 0) (Chg.zero (l := 0) (h := 0) ((((d36.t c38).t c42).t c45).t cb47)) cw50 (by omega)
       exact q_n (kw_sub (Sub.cons (t := 2) rfl (.cons (t := 3) rfl (.cons (t := 4) rfl (.cons (t := 6) rfl (.cons (t := 7) rfl (.nil)))))) (kc25 _ _ ⟨b47, s45, w42.heap.size, w45.heap.size, rfl, q55, gw50, f54, by omega, by omega, by omega⟩))
      ·
       refine sx_alloc [.string (⟨#[]⟩), .bool false, (.slice none 0 0)] rfl Tryd.zeroValue31 rfl (fun b56 w57 eb56 sb56 fb56 cb56 => ?_)
       have zw57 := cb56.size
       have s58 : Chg 0 0 w20 w57 := (((d36.t c38).t c42).t cb56)
       refine wl_nil ?_
       refine dx_next s58 ?_
       refine dx_eff 4 rfl (by kernel_rfl) ?_
       have f59 := os2_38.ext c42
       have f60 := f59.ext cb56
       have f61 := os2_42.ext cb56
       refine sx_call rfl rfl Tryd.call49 (c_sMoneySub f60.sv f61.sv (by omega)) (fun v62 w62 p62 => ?_)
       obtain ⟨s62, rfl, os_62, hl62, c62⟩ := p62
       have zw62 := c62.size
       have s63 : Chg 0 0 w20 w62 := ((((d36.t c38).t c42).t cb56).t c62)
       refine wl_nil ?_
       refine dx_next s63 ?_
       refine dx_take 5 rfl rfl rfl rfl (by kernel_rfl) (by kernel_rfl) (by kernel_rfl) s63 (fun _ hS => px_move rfl) ?_
       refine dx_take 6 rfl rfl rfl rfl (by kernel_rfl) (by kernel_rfl) (by kernel_rfl) s63 (fun _ hS => px_extract (vs := [.agg #[.string ((mBin gSub c1 n1 z1 c2 n2 z2).1), .bool ((mBin gSub c1 n1 z1 c2 n2 z2).2.1), s62], .bool ((mBin gSub c1 n1 z1 c2 n2 z2).2.2.2)]) rfl rfl) ?_
       refine dx_take 7 rfl rfl rfl rfl (by kernel_rfl) (by kernel_rfl) (by kernel_rfl) s63 (fun _ hS => px_extract (vs := [.agg #[.string ((mBin gSub c1 n1 z1 c2 n2 z2).1), .bool ((mBin gSub c1 n1 z1 c2 n2 z2).2.1), s62], .bool ((mBin gSub c1 n1 z1 c2 n2 z2).2.2.2)]) rfl rfl) ?_
       refine dx_eff 9 rfl (by kernel_rfl) ?_
       have f65 := fb56.ext c62
       refine sx_store (vs := [.string ((mBin gSub c1 n1 z1 c2 n2 z2).1), .bool ((mBin gSub c1 n1 z1 c2 n2 z2).2.1), s62]) rfl rfl f65 rfl Tryd.sizeOf31 (Nat.le_of_ble_eq_true rfl) (one_cons rfl (one_cons rfl (one_cons os_62.one one_nil))) (fun w64 sw64 fw64 cw64 => ?_)
       have zw64 := cw64.size
       have gw64 : Blk w64 b56 [.string ((mBin gSub c1 n1 z1 c2 n2 z2).1), .bool ((mBin gSub c1 n1 z1 c2 n2 z2).2.1), s62] 31 := fw64
       have q67 := Chg.step (l := 0) (h := 0) (Chg.zero (l := 0) (h := 0) ((((d36.t c38).t c42).t cb56).t c62)) cw64 (by omega)
       have s66 : Chg 0 0 w20 w64 := q67
       refine wl_nil ?_
       refine dx_next s66 ?_
       refine dx_take 10 rfl rfl rfl rfl (by kernel_rfl) (by kernel_rfl) (by kernel_rfl) s66 (fun _ hS => px_assign rfl) ?_
       refine dx_done (by kernel_rfl) ?_
       have f68 := os_62.chg cw64 (by omega)
       have q69 := Chg.step (l := 0) (h := 0) (Chg.zero (l := 0) (h := 0) ((((d36.t c38).t c42).t cb56).t c62)) cw64 (by omega)
       exact q_n (kw_sub (Sub.cons (t := 2) rfl (.cons (t := 3) rfl (.cons (t := 4) rfl (.cons (t := 6) rfl (.cons (t := 7) rfl (.nil)))))) (kc25 _ _ ⟨b56, s62, w57.heap.size, w62.heap.size, rfl, q69, gw64, f68, by omega, by omega, by omega⟩))
     ·
      refine sx_alloc [.string (⟨#[]⟩), .bool false, (.slice none 0 0)] rfl Tryd.zeroValue31 rfl (fun b70 w71 eb70 sb70 fb70 cb70 => ?_)
      have zw71 := cb70.size
      have s72 : Chg 0 0 w20 w71 := ((d36.t c38).t cb70)
      refine wl_nil ?_
      refine dx_next s72 ?_
      refine dx_eff 3 rfl (by kernel_rfl) ?_
      have f73 := f35.ext d36
      have f74 := f73.ext c38
      have f75 := f74.ext cb70
      refine sx_call rfl rfl Tryd.call17 (c_toMoney f75 (by omega)) (fun v76 w76 p76 => ?_)
      obtain ⟨s276, rfl, os2_76, c76⟩ := p76
      have zw76 := c76.size
      have s77 : Chg 0 0 w20 w76 := (((d36.t c38).t cb70).t c76)
      refine wl_nil ?_
      refine dx_next s77 ?_
      refine dx_eff 4 rfl (by kernel_rfl) ?_
      have f78 := os2_38.ext cb70
      have f79 := f78.ext c76
      refine sx_call rfl rfl Tryd.call49 (c_sMoneySub f79.sv os2_76.sv (by omega)) (fun v80 w80 p80 => ?_)
      obtain ⟨s80, rfl, os_80, hl80, c80⟩ := p80
      have zw80 := c80.size
      have s81 : Chg 0 0 w20 w80 := ((((d36.t c38).t cb70).t c76).t c80)
      refine wl_nil ?_
      refine dx_next s81 ?_
      refine dx_take 5 rfl rfl rfl rfl (by kernel_rfl) (by kernel_rfl) (by kernel_rfl) s81 (fun _ hS => px_move rfl) ?_
      refine dx_take 6 rfl rfl rfl rfl (by kernel_rfl) (by kernel_rfl) (by kernel_rfl) s81 (fun _ hS => px_extract (vs := [.agg #[.string ((mBin gSub c1 n1 z1 c2 n2 z2).1), .bool ((mBin gSub c1 n1 z1 c2 n2 z2).2.1), s80], .bool ((mBin gSub c1 n1 z1 c2 n2 z2).2.2.2)]) rfl rfl) ?_
      refine dx_take 7 rfl rfl rfl rfl (by kernel_rfl) (by kernel_rfl) (by kernel_rfl) s81 (fun _ hS => px_extract (vs := [.agg #[.string ((mBin gSub c1 n1 z1 c2 n2 z2).1), .bool ((mBin gSub c1 n1 z1 c2 n2 z2).2.1), s80], .bool ((mBin gSub c1 n1 z1 c2 n2 z2).2.2.2)]) rfl rfl) ?_
      refine dx_eff 9 rfl (by kernel_rfl) ?_
      have f83 := fb70.ext c76
      have f84 := f83.ext c80
      refine sx_store (vs := [.string ((mBin gSub c1 n1 z1 c2 n2 z2).1), .bool ((mBin gSub c1 n1 z1 c2 n2 z2).2.1), s80]) rfl rfl f84 rfl Tryd.sizeOf31 (Nat.le_of_ble_eq_true rfl) (one_cons rfl (one_cons rfl (one_cons os_80.one one_nil))) (fun w82 sw82 fw82 cw82 => ?_)
      have zw82 := cw82.size
      have gw82 : Blk w82 b70 [.string ((mBin gSub c1 n1 z1 c2 n2 z2).1), .bool ((mBin gSub c1 n1 z1 c2 n2 z2).2.1), s80] 31 := fw82
      have q86 := Chg.step (l := 0) (h := 0) (Chg.zero (l := 0) (h := 0) ((((d36.t c38).t cb70).t c76).t c80)) cw82 (by omega)
      have s85 : Chg 0 0 w20 w82 := q86
      refine wl_nil ?_
      refine dx_next s85 ?_
      refine dx_take 10 rfl rfl rfl rfl (by kernel_rfl) (by kernel_rfl) (by kernel_rfl) s85 (fun _ hS => px_assign rfl) ?_
      refine dx_done (by kernel_rfl) ?_
      have f87 := os_80.chg cw82 (by omega)
      have q88 := Chg.step (l := 0) (h := 0) (Chg.zero (l := 0) (h := 0) ((((d36.t c38).t cb70).t c76).t c80)) cw82 (by omega)
      exact q_n (kw_sub (Sub.cons (t := 2) rfl (.cons (t := 3) rfl (.cons (t := 4) rfl (.cons (t := 6) rfl (.cons (t := 7) rfl (.nil)))))) (kc25 _ _ ⟨b70, s80, w76.heap.size, w80.heap.size, rfl, q88, gw82, f87, by omega, by omega, by omega⟩))
    ·
     refine sx_alloc [.string (⟨#[]⟩), .bool false, (.slice none 0 0)] rfl Tryd.zeroValue31 rfl (fun b89 w90 eb89 sb89 fb89 cb89 => ?_)
     have zw90 := cb89.size
     have s91 : Chg 0 0 w20 w90 := (d36.t cb89)
     refine wl_nil ?_
     refine dx_next s91 ?_
     refine dx_eff 1 rfl (by kernel_rfl) ?_
     have f92 := f34.ext d36
     have f93 := f92.ext cb89
     refine sx_call rfl rfl Tryd.call17 (c_toMoney f93 (by omega)) (fun v94 w94 p94 => ?_)
     obtain ⟨s294, rfl, os2_94, c94⟩ := p94
     have zw94 := c94.size
     have s95 : Chg 0 0 w20 w94 := ((d36.t cb89).t c94)
     refine wl_nil ?_
     refine dx_next s95 ?_
     refine dx_eff 3 rfl (by kernel_rfl) ?_
     have f96 := f35.ext d36
     have f97 := f96.ext cb89
     have f98 := f97.ext c94
     refine sx_call rfl rfl Tryd.call17 (c_toMoney f98 (by omega)) (fun v99 w99 p99 => ?_)
     obtain ⟨s299, rfl, os2_99, c99⟩ := p99
     have zw99 := c99.size
     have s100 : Chg 0 0 w20 w99 := (((d36.t cb89).t c94).t c99)
     refine wl_nil ?_
     refine dx_next s100 ?_
     refine dx_eff 4 rfl (by kernel_rfl) ?_
     have f101 := os2_94.ext c99
     refine sx_call rfl rfl Tryd.call49 (c_sMoneySub f101.sv os2_99.sv (by omega)) (fun v102 w102 p102 => ?_)
     obtain ⟨s102, rfl, os_102, hl102, c102⟩ := p102
     have zw102 := c102.size
     have s103 : Chg 0 0 w20 w102 := ((((d36.t cb89).t c94).t c99).t c102)
     refine wl_nil ?_
     refine dx_next s103 ?_
     refine dx_take 5 rfl rfl rfl rfl (by kernel_rfl) (by kernel_rfl) (by kernel_rfl) s103 (fun _ hS => px_move rfl) ?_
     refine dx_take 6 rfl rfl rfl rfl (by kernel_rfl) (by kernel_rfl) (by kernel_rfl) s103 (fun _ hS => px_extract (vs := [.agg #[.string ((mBin gSub c1 n1 z1 c2 n2 z2).1), .bool ((mBin gSub c1 n1 z1 c2 n2 z2).2.1), s102], .bool ((mBin gSub c1 n1 z1 c2 n2 z2).2.2.2)]) rfl rfl) ?_
     refine dx_take 7 rfl rfl rfl rfl (by kernel_rfl) (by kernel_rfl) (by kernel_rfl) s103 (fun _ hS => px_extract (vs := [.agg #[.string ((mBin gSub c1 n1 z1 c2 n2 z2).1), .bool ((mBin gSub c1 n1 z1 c2 n2 z2).2.1), s102], .bool ((mBin gSub c1 n1 z1 c2 n2 z2).2.2.2)]) rfl rfl) ?_
     refine dx_eff 9 rfl (by kernel_rfl) ?_
     have f105 := fb89.ext c94
     have f106 := f105.ext c99
     have f107 := f106.ext c102
     refine sx_store (vs := [.string ((mBin gSub c1 n1 z1 c2 n2 z2).1), .bool ((mBin gSub c1 n1 z1 c2 n2 z2).2.1), s102]) rfl rfl f107 rfl Tryd.sizeOf31 (Nat.le_of_ble_eq_true rfl) (one_cons rfl (one_cons rfl (one_cons os_102.one one_nil))) (fun w104 sw104 fw104 cw104 => ?_)
     have zw104 := cw104.size
     have gw104 : Blk w104 b89 [.string ((mBin gSub c1 n1 z1 c2 n2 z2).1), .bool ((mBin gSub c1 n1 z1 c2 n2 z2).2.1), s102] 31 := fw104
     have q109 := Chg.step (l := 0) (h := 0) (Chg.zero (l := 0) (h := 0) ((((d36.t cb89).t c94).t c99).t c102)) cw104 (by omega)
     have s108 : Chg 0 0 w20 w104 := q109
     refine wl_nil ?_
     refine dx_next s108 ?_
     refine dx_take 10 rfl rfl rfl rfl (by kernel_rfl) (by kernel_rfl) (by kernel_rfl) s108 (fun _ hS => px_assign rfl) ?_
     refine dx_done (by kernel_rfl) ?_
     have f110 := os_102.chg cw104 (by omega)
     have q111 := Chg.step (l := 0) (h := 0) (Chg.zero (l := 0) (h := 0) ((((d36.t cb89).t c94).t c99).t c102)) cw104 (by omega)
     exact q_n (kw_sub (Sub.cons (t := 2) rfl (.cons (t := 3) rfl (.cons (t := 4) rfl (.cons (t := 6) rfl (.cons (t := 7) rfl (.nil)))))) (kc25 _ _ ⟨b89, s102, w99.heap.size, w102.heap.size, rfl, q111, gw104, f110, by omega, by omega, by omega⟩))
   ·
    rintro fr w'25 ⟨gb25x0, gs25x1, gl25x1, gu25x1, rfl, cw'25, xgb25x0, xgs25x1, ygb25x0, ygl25x1, dgl25x1xgb25x0⟩
    have zw'25 := cw'25.size
    refine sx_seq fun K112 k112 => sx_region ?_
    have f113 := f8.ext c11
    have f114 := f113.ext c20
    have f115 := f114.ext cw'25
    refine sx_pure rfl rfl rfl (px_load rfl (f115.loadA (vs := [.string c1, .bool n1, v1]) (look_lit rfl) Tryd.isAgg26 Tryd.sizeOf26)) ?_
    have f116 := f10.ext c11
    have f117 := f116.ext c20
    have f118 := f117.ext cw'25
    refine sx_call rfl rfl Tryd.call17 (c_toMoney f118 (by omega)) (fun v119 w119 p119 => ?_)
    obtain ⟨s2119, rfl, os2_119, c119⟩ := p119
    have zw119 := c119.size
    refine sx_alloc [.string (⟨#[]⟩), .bool false, (.slice none 0 0)] rfl Tryd.zeroValue31 rfl (fun b120 w121 eb120 sb120 fb120 cb120 => ?_)
    have zw121 := cb120.size
    have f123 := os2_119.ext cb120
    refine sx_store (vs := [.string c1, .bool n1, s2119]) rfl rfl fb120 rfl Tryd.sizeOf31 (Nat.le_of_ble_eq_true rfl) (one_cons rfl (one_cons rfl (one_cons f123.one one_nil))) (fun w122 sw122 fw122 cw122 => ?_)
    have zw122 := cw122.size
    have gw122 : Blk w122 b120 [.string c1, .bool n1, s2119] 31 := fw122
    refine wl_nil (q_n (k112 _ _ ?_))
    refine sx_seq fun K124 k124 => sx_region ?_
    have f125 := f16.ext c20
    have f126 := f125.ext cw'25
    have f127 := f126.ext c119
    have f128 := f127.ext cb120
    have f129 := f128.chg cw122 (by omega)
    refine sx_pure rfl rfl rfl (px_load rfl (f129.loadA (vs := [.string c2, .bool n2, v2]) (look_lit rfl) Tryd.isAgg26 Tryd.sizeOf26)) ?_
    have f130 := f19.ext c20
    have f131 := f130.ext cw'25
    have f132 := f131.ext c119
    have f133 := f132.ext cb120
    have f134 := f133.chg cw122 (by omega)
    refine sx_call rfl rfl Tryd.call17 (c_toMoney f134 (by omega)) (fun v135 w135 p135 => ?_)
    obtain ⟨s2135, rfl, os2_135, c135⟩ := p135
    have zw135 := c135.size
    refine sx_alloc [.string (⟨#[]⟩), .bool false, (.slice none 0 0)] rfl Tryd.zeroValue31 rfl (fun b136 w137 eb136 sb136 fb136 cb136 => ?_)
    have zw137 := cb136.size
    have f139 := os2_135.ext cb136
    refine sx_store (vs := [.string c2, .bool n2, s2135]) rfl rfl fb136 rfl Tryd.sizeOf31 (Nat.le_of_ble_eq_true rfl) (one_cons rfl (one_cons rfl (one_cons f139.one one_nil))) (fun w138 sw138 fw138 cw138 => ?_)
    have zw138 := cw138.size
    have gw138 : Blk w138 b136 [.string c2, .bool n2, s2135] 31 := fw138
    refine wl_nil (q_n (k124 _ _ ?_))
    refine sx_seq fun K140 k140 => sx_region ?_
    have f141 := gw122.ext c135
    have f142 := f141.ext cb136
    have f143 := f142.chg cw138 (by omega)
    refine sx_pure rfl rfl rfl (px_load rfl (f143.loadA (vs := [.string c1, .bool n1, s2119]) (look_lit rfl) Tryd.isAgg31 Tryd.sizeOf31)) ?_
    refine sx_pure rfl rfl rfl (px_load rfl (gw138.loadA (vs := [.string c2, .bool n2, s2135]) (look_lit rfl) Tryd.isAgg31 Tryd.sizeOf31)) ?_
    have f144 := hG0.ext cb2
    have f145 := f144.ext cb4
    have f146 := f145.ext c11
    have f147 := f146.ext c20
    have f148 := f147.ext cw'25
    have f149 := f148.ext c119
    have f150 := f149.ext cb120
    have f151 := f150.chg cw122 (by omega)
    have f152 := f151.ext c135
    have f153 := f152.ext cb136
    have f154 := f153.chg cw138 (by omega)
    have f155 := f123.chg cw122 (by omega)
    have f156 := f155.ext c135
    have f157 := f156.ext cb136
    have f158 := f157.chg cw138 (by omega)
    have f159 := f139.chg cw138 (by omega)
    refine sx_call rfl rfl Tryd.call50 (c_iMoneySub f154 f158.sv f159.sv (by omega)) (fun v160 w160 p160 => ?_)
    obtain ⟨s160, rfl, os_160, hl160, c160⟩ := p160
    have zw160 := c160.size
    refine sm rfl rfl rfl rfl ?_
    refine sx_pure rfl rfl rfl (px_extract (vs := [.agg #[.string ((mBin gSub c1 n1 z1 c2 n2 z2).1), .bool ((mBin gSub c1 n1 z1 c2 n2 z2).2.1), s160], .bool ((mBin gSub c1 n1 z1 c2 n2 z2).2.2.2)]) rfl rfl) ?_
    refine sx_pure rfl rfl rfl (px_extract (vs := [.agg #[.string ((mBin gSub c1 n1 z1 c2 n2 z2).1), .bool ((mBin gSub c1 n1 z1 c2 n2 z2).2.1), s160], .bool ((mBin gSub c1 n1 z1 c2 n2 z2).2.2.2)]) rfl rfl) ?_
    refine sx_alloc [.string (⟨#[]⟩), .bool false, (.slice none 0 0)] rfl Tryd.zeroValue31 rfl (fun b161 w162 eb161 sb161 fb161 cb161 => ?_)
    have zw162 := cb161.size
    have f164 := os_160.ext cb161
    refine sx_store (vs := [.string ((mBin gSub c1 n1 z1 c2 n2 z2).1), .bool ((mBin gSub c1 n1 z1 c2 n2 z2).2.1), s160]) rfl rfl fb161 rfl Tryd.sizeOf31 (Nat.le_of_ble_eq_true rfl) (one_cons rfl (one_cons rfl (one_cons f164.one one_nil))) (fun w163 sw163 fw163 cw163 => ?_)
    have zw163 := cw163.size
    have gw163 : Blk w163 b161 [.string ((mBin gSub c1 n1 z1 c2 n2 z2).1), .bool ((mBin gSub c1 n1 z1 c2 n2 z2).2.1), s160] 31 := fw163
    refine sa rfl rfl rfl rfl ?_
    refine wl_nil (q_n (k140 _ _ ?_))
    refine sx_sub (Sub.cons (t := 2) rfl (.cons (t := 3) rfl (.cons (t := 4) rfl (.cons (t := 6) rfl (.cons (t := 7) rfl (.cons (t := 8) rfl (.cons (t := 9) rfl (.cons (t := 10) rfl (.cons (t := 11) rfl (.nil)))))))))) ?_
    refine sx_seq fun K165 k165 => ?_
    refine sx_seq fun K166 k166 => sx_region ?_
    refine sx_pure rfl rfl rfl (px_load rfl (gw163.loadA (vs := [.string ((mBin gSub c1 n1 z1 c2 n2 z2).1), .bool ((mBin gSub c1 n1 z1 c2 n2 z2).2.1), s160]) (look_lit rfl) Tryd.isAgg31 Tryd.sizeOf31)) ?_
    have f167 := xgb25x0.ext c119
    have f168 := f167.ext cb120
    have f169 := f168.chg cw122 (by omega)
    have f170 := f169.ext c135
    have f171 := f170.ext cb136
    have f172 := f171.chg cw138 (by omega)
    have f173 := f172.ext c160
    have f174 := f173.ext cb161
    have f175 := f174.chg cw163 (by omega)
    refine sx_pure rfl rfl rfl (px_load rfl (f175.loadA (vs := [.string ((mBin gSub c1 n1 z1 c2 n2 z2).1), .bool ((mBin gSub c1 n1 z1 c2 n2 z2).2.1), gs25x1]) (look_lit rfl) Tryd.isAgg31 Tryd.sizeOf31)) ?_
    have f176 := f164.chg cw163 (by omega)
    have f177 := xgs25x1.ext c119
    have f178 := f177.ext cb120
    have f179 := f178.chg cw122 (by omega)
    have f180 := f179.ext c135
    have f181 := f180.ext cb136
    have f182 := f181.chg cw138 (by omega)
    have f183 := f182.ext c160
    have f184 := f183.ext cb161
    have f185 := f184.chg cw163 (by omega)
    refine sx_call rfl rfl Tryd.call19 (c_eqMoney f176.sv f185.sv (by omega)) (fun v186 w186 p186 => ?_)
    obtain ⟨rfl, c186⟩ := p186
    have zw186 := c186.size
    refine sx_pure rfl rfl rfl (px_notP rfl) ?_
    refine sm rfl rfl rfl rfl ?_
    have h5055 : ¬ (¬ (((mBin gSub c1 n1 z1 c2 n2 z2).1) = ((mBin gSub c1 n1 z1 c2 n2 z2).1) ∧ ((mBin gSub c1 n1 z1 c2 n2 z2).2.1) = ((mBin gSub c1 n1 z1 c2 n2 z2).2.1) ∧ ((mBin gSub c1 n1 z1 c2 n2 z2).2.2.1) = ((mBin gSub c1 n1 z1 c2 n2 z2).2.2.1))) := by simp [mk_length]
    refine sx_tmpPF (t := 49) rfl h5055 ?_
    refine sx_guardT rfl rfl rfl ?_
    refine sm rfl rfl rfl rfl ?_
    refine sx_guardT rfl rfl rfl ?_
    refine sm rfl rfl rfl rfl ?_
    refine sx_guardT rfl rfl rfl ?_
    refine sx_pure rfl rfl rfl (px_neB Tryd.underlying4 rfl rfl) ?_
    refine sx_pure rfl rfl rfl (px_pick rfl rfl) ?_
    refine wl_nil (q_n (k166 _ _ ?_))
    refine sx_sub (Sub.cons (t := 2) rfl (.cons (t := 3) rfl (.cons (t := 4) rfl (.cons (t := 6) rfl (.cons (t := 7) rfl (.cons (t := 8) rfl (.cons (t := 9) rfl (.cons (t := 10) rfl (.cons (t := 11) rfl (.cons (t := 53) rfl (.nil))))))))))) ?_
    have h5055x1 : (((mBin gSub c1 n1 z1 c2 n2 z2).2.2.2) != ((mBin gSub c1 n1 z1 c2 n2 z2).2.2.2)) = false := by simp [mk_length]
    refine sx_condBF rfl h5055x1 ?_
    refine sx_skip ?_
    refine q_n (k165 _ _ ?_)
    refine sx_seq fun K187 k187 => ?_
    refine sx_seq fun K188 k188 => ?_
    have f189 := f154.ext c160
    have f190 := f189.ext cb161
    have f191 := f190.chg cw163 (by omega)
    have f192 := f191.ext c186
    have f193 := f115.ext c119
    have f194 := f193.ext cb120
    have f195 := f194.chg cw122 (by omega)
    have f196 := f195.ext c135
    have f197 := f196.ext cb136
    have f198 := f197.chg cw138 (by omega)
    have f199 := f198.ext c160
    have f200 := f199.ext cb161
    have f201 := f200.chg cw163 (by omega)
    have f202 := f201.ext c186
    have f203 := f129.ext c135
    have f204 := f203.ext cb136
    have f205 := f204.chg cw138 (by omega)
    have f206 := f205.ext c160
    have f207 := f206.ext cb161
    have f208 := f207.chg cw163 (by omega)
    have f209 := f208.ext c186
    have f210 := f175.ext c186
    have f211 := f143.ext c160
    have f212 := f211.ext cb161
    have f213 := f212.chg cw163 (by omega)
    have f214 := f213.ext c186
    have f215 := gw138.ext c160
    have f216 := f215.ext cb161
    have f217 := f216.chg cw163 (by omega)
    have f218 := f217.ext c186
    have f219 := gw163.ext c186
    have f220 := f118.ext c119
    have f221 := f220.ext cb120
    have f222 := f221.chg cw122 (by omega)
    have f223 := f222.ext c135
    have f224 := f223.ext cb136
    have f225 := f224.chg cw138 (by omega)
    have f226 := f225.ext c160
    have f227 := f226.ext cb161
    have f228 := f227.chg cw163 (by omega)
    have f229 := f228.ext c186
    have f230 := f134.ext c135
    have f231 := f230.ext cb136
    have f232 := f231.chg cw138 (by omega)
    have f233 := f232.ext c160
    have f234 := f233.ext cb161
    have f235 := f234.chg cw163 (by omega)
    have f236 := f235.ext c186
    have f237 := f185.ext c186
    have f238 := f158.ext c160
    have f239 := f238.ext cb161
    have f240 := f239.chg cw163 (by omega)
    have f241 := f240.ext c186
    have f242 := f159.ext c160
    have f243 := f242.ext cb161
    have f244 := f243.chg cw163 (by omega)
    have f245 := f244.ext c186
    have f246 := f176.ext c186
    refine dx_region (fun w' => Chg 0 0 w186 w') (by kernel_rfl) (Chg.zero (Chg.drew _)) ?_
    have d247 := Chg.drew w186
    have s247 : Chg 0 0 w186 (World.drew w186) := Chg.zero (Chg.drew _)
    have y247 : (World.drew w186).heap.size = w186.heap.size := rfl
    generalize World.drew w186 = w247 at *
    have zw247 := d247.size
    refine dx_take 0 rfl rfl rfl rfl (by kernel_rfl) (by kernel_rfl) (by kernel_rfl) s247 (fun _ hS => px_load rfl ((f214.chg hS (by omega)).loadA (vs := [.string c1, .bool n1, s2119]) (look_lit rfl) Tryd.isAgg31 Tryd.sizeOf31)) ?_
    refine dx_take 1 rfl rfl rfl rfl (by kernel_rfl) (by kernel_rfl) (by kernel_rfl) s247 (fun _ hS => px_load rfl ((f202.chg hS (by omega)).loadA (vs := [.string c1, .bool n1, v1]) (look_lit rfl) Tryd.isAgg26 Tryd.sizeOf26)) ?_
    refine dx_eff 2 rfl (by kernel_rfl) ?_
    have f248 := f229.ext d247
    refine sx_call rfl rfl Tryd.call17 (c_toMoney f248 (by omega)) (fun v249 w249 p249 => ?_)
    obtain ⟨s2249, rfl, os2_249, c249⟩ := p249
    have zw249 := c249.size
    have s250 : Chg 0 0 w186 w249 := (d247.t c249)
    refine wl_nil ?_
    refine dx_next s250 ?_
    refine dx_eff 3 rfl (by kernel_rfl) ?_
    have f251 := f241.ext d247
    have f252 := f251.ext c249
    refine sx_call rfl rfl Tryd.call19 (c_eqMoney f252.sv os2_249.sv (by omega)) (fun v253 w253 p253 => ?_)
    obtain ⟨rfl, c253⟩ := p253
    have zw253 := c253.size
    have s254 : Chg 0 0 w186 w253 := ((d247.t c249).t c253)
    refine wl_nil ?_
    refine dx_next s254 ?_
    refine dx_take 4 rfl rfl rfl rfl (by kernel_rfl) (by kernel_rfl) (by kernel_rfl) s254 (fun _ hS => px_notP rfl) ?_
    refine dx_done (by kernel_rfl) ?_
    refine q_n (k188 _ _ ?_)
    refine sx_sub (Sub.cons (t := 2) rfl (.cons (t := 3) rfl (.cons (t := 4) rfl (.cons (t := 6) rfl (.cons (t := 7) rfl (.cons (t := 8) rfl (.cons (t := 9) rfl (.cons (t := 10) rfl (.cons (t := 11) rfl (.cons (t := 58) rfl (.nil))))))))))) ?_
    have h5058 : ¬ (¬ (c1 = c1 ∧ n1 = n1 ∧ z1 = z1)) := by simp [mk_length]
    refine sx_condPF rfl h5058 ?_
    refine sx_skip ?_
    refine q_n (k187 _ _ ?_)
    refine sx_seq fun K255 k255 => ?_
    refine sx_seq fun K256 k256 => ?_
    have f257 := f192.ext d247
    have f258 := f257.ext c249
    have f259 := f258.ext c253
    have f260 := f202.ext d247
    have f261 := f260.ext c249
    have f262 := f261.ext c253
    have f263 := f209.ext d247
    have f264 := f263.ext c249
    have f265 := f264.ext c253
    have f266 := f210.ext d247
    have f267 := f266.ext c249
    have f268 := f267.ext c253
    have f269 := f214.ext d247
    have f270 := f269.ext c249
    have f271 := f270.ext c253
    have f272 := f218.ext d247
    have f273 := f272.ext c249
    have f274 := f273.ext c253
    have f275 := f219.ext d247
    have f276 := f275.ext c249
    have f277 := f276.ext c253
    have f278 := f248.ext c249
    have f279 := f278.ext c253
    have f280 := f236.ext d247
    have f281 := f280.ext c249
    have f282 := f281.ext c253
    have f283 := f237.ext d247
    have f284 := f283.ext c249
    have f285 := f284.ext c253
    have f286 := f252.ext c253
    have f287 := f245.ext d247
    have f288 := f287.ext c249
    have f289 := f288.ext c253
    have f290 := f246.ext d247
    have f291 := f290.ext c249
    have f292 := f291.ext c253
    have f293 := os2_249.ext c253
    refine dx_region (fun w' => Chg 0 0 w253 w') (by kernel_rfl) (Chg.zero (Chg.drew _)) ?_
    have d294 := Chg.drew w253
    have s294 : Chg 0 0 w253 (World.drew w253) := Chg.zero (Chg.drew _)
    have y294 : (World.drew w253).heap.size = w253.heap.size := rfl
    generalize World.drew w253 = w294 at *
    have zw294 := d294.size
    refine dx_take 0 rfl rfl rfl rfl (by kernel_rfl) (by kernel_rfl) (by kernel_rfl) s294 (fun _ hS => px_load rfl ((f274.chg hS (by omega)).loadA (vs := [.string c2, .bool n2, s2135]) (look_lit rfl) Tryd.isAgg31 Tryd.sizeOf31)) ?_
    refine dx_take 1 rfl rfl rfl rfl (by kernel_rfl) (by kernel_rfl) (by kernel_rfl) s294 (fun _ hS => px_load rfl ((f265.chg hS (by omega)).loadA (vs := [.string c2, .bool n2, v2]) (look_lit rfl) Tryd.isAgg26 Tryd.sizeOf26)) ?_
    refine dx_eff 2 rfl (by kernel_rfl) ?_
    have f295 := f282.ext d294
    refine sx_call rfl rfl Tryd.call17 (c_toMoney f295 (by omega)) (fun v296 w296 p296 => ?_)
    obtain ⟨s2296, rfl, os2_296, c296⟩ := p296
    have zw296 := c296.size
    have s297 : Chg 0 0 w253 w296 := (d294.t c296)
    refine wl_nil ?_
    refine dx_next s297 ?_
    refine dx_eff 3 rfl (by kernel_rfl) ?_
    have f298 := f289.ext d294
    have f299 := f298.ext c296
    refine sx_call rfl rfl Tryd.call19 (c_eqMoney f299.sv os2_296.sv (by omega)) (fun v300 w300 p300 => ?_)
    obtain ⟨rfl, c300⟩ := p300
    have zw300 := c300.size
    have s301 : Chg 0 0 w253 w300 := ((d294.t c296).t c300)
    refine wl_nil ?_
    refine dx_next s301 ?_
    refine dx_take 4 rfl rfl rfl rfl (by kernel_rfl) (by kernel_rfl) (by kernel_rfl) s301 (fun _ hS => px_notP rfl) ?_
    refine dx_done (by kernel_rfl) ?_
    refine q_n (k256 _ _ ?_)
    refine sx_sub (Sub.cons (t := 2) rfl (.cons (t := 3) rfl (.cons (t := 4) rfl (.cons (t := 6) rfl (.cons (t := 7) rfl (.cons (t := 8) rfl (.cons (t := 9) rfl (.cons (t := 10) rfl (.cons (t := 11) rfl (.cons (t := 63) rfl (.nil))))))))))) ?_
    have h5061 : ¬ (¬ (c2 = c2 ∧ n2 = n2 ∧ z2 = z2)) := by simp [mk_length]
    refine sx_condPF rfl h5061 ?_
    refine sx_skip ?_
    refine q_n (k255 _ _ ?_)
    refine sx_seq fun K302 k302 => sx_region ?_
    refine sa rfl rfl rfl rfl ?_
    refine wl_nil (q_n (k302 _ _ ?_))
    refine sx_seq fun K303 k303 => sx_region ?_
    have f304 := f271.ext d294
    have f305 := f304.ext c296
    have f306 := f305.ext c300
    refine sx_pure rfl rfl rfl (px_load rfl (f306.loadA (vs := [.string c1, .bool n1, s2119]) (look_lit rfl) Tryd.isAgg31 Tryd.sizeOf31)) ?_
    refine sm rfl rfl rfl rfl ?_
    have f307 := f286.ext d294
    have f308 := f307.ext c296
    have f309 := f308.ext c300
    refine sx_call rfl rfl Tryd.call27 (c_markMoney f309 (by omega) (by omega)) (fun v310 w310 p310 => ?_)
    obtain ⟨rfl, ov1_310, c310⟩ := p310
    have zw310 := c310.size
    refine sa rfl rfl rfl rfl ?_
    refine wl_nil (q_n (k303 _ _ ?_))
    refine sx_seq fun K311 k311 => sx_region ?_
    have f312 := f274.ext d294
    have f313 := f312.ext c296
    have f314 := f313.ext c300
    have f315 := f314.chg c310 (by omega)
    refine sx_pure rfl rfl rfl (px_load rfl (f315.loadA (vs := [.string c2, .bool n2, s2135]) (look_lit rfl) Tryd.isAgg31 Tryd.sizeOf31)) ?_
    refine sm rfl rfl rfl rfl ?_
    have f316 := f299.ext c300
    have f317 := f316.chg c310 (by omega)
    refine sx_call rfl rfl Tryd.call27 (c_markMoney f317 (by omega) (by omega)) (fun v318 w318 p318 => ?_)
    obtain ⟨rfl, ov1_318, c318⟩ := p318
    have zw318 := c318.size
    refine sa rfl rfl rfl rfl ?_
    refine wl_nil (q_n (k311 _ _ ?_))
    refine sx_sub (Sub.cons (t := 2) rfl (.cons (t := 3) rfl (.cons (t := 4) rfl (.cons (t := 6) rfl (.cons (t := 7) rfl (.cons (t := 10) rfl (.cons (t := 11) rfl (.cons (t := 12) rfl (.nil))))))))) ?_
    refine sx_seq fun K319 k319 => ?_
    refine sx_seq fun K320 k320 => sx_region ?_
    refine sm rfl rfl rfl rfl ?_
    refine sx_pure rfl rfl rfl (px_lt rfl rfl) ?_
    refine sm rfl rfl rfl rfl ?_
    have h5067 : ¬ (((1 + ↑(z1).length) + ↑(z2).length : Int) < 0) := by omega
    refine sx_tmpPF (t := 72) rfl h5067 ?_
    refine sx_guardT rfl rfl rfl ?_
    have f321 := f277.ext d294
    have f322 := f321.ext c296
    have f323 := f322.ext c300
    have f324 := f323.chg c310 (by omega)
    have f325 := f324.chg c318 (by omega)
    refine sx_pure rfl rfl rfl (px_load rfl (f325.loadA (vs := [.string ((mBin gSub c1 n1 z1 c2 n2 z2).1), .bool ((mBin gSub c1 n1 z1 c2 n2 z2).2.1), s160]) (look_lit rfl) Tryd.isAgg31 Tryd.sizeOf31)) ?_
    refine sx_guardT rfl rfl rfl ?_
    have f326 := f268.ext d294
    have f327 := f326.ext c296
    have f328 := f327.ext c300
    have f329 := f328.chg c310 (by omega)
    have f330 := f329.chg c318 (by omega)
    refine sx_pure rfl rfl rfl (px_load rfl (f330.loadA (vs := [.string ((mBin gSub c1 n1 z1 c2 n2 z2).1), .bool ((mBin gSub c1 n1 z1 c2 n2 z2).2.1), gs25x1]) (look_lit rfl) Tryd.isAgg31 Tryd.sizeOf31)) ?_
    refine sx_guardT rfl rfl rfl ?_
    have f331 := f292.ext d294
    have f332 := f331.ext c296
    have f333 := f332.ext c300
    have f334 := f333.chg c310 (by omega)
    have f335 := f334.chg c318 (by omega)
    have f336 := f285.ext d294
    have f337 := f336.ext c296
    have f338 := f337.ext c300
    have f339 := f338.chg c310 (by omega)
    have f340 := f339.chg c318 (by omega)
    refine sx_call rfl rfl Tryd.call19 (c_eqMoney f335.sv f340.sv (by omega)) (fun v341 w341 p341 => ?_)
    obtain ⟨rfl, c341⟩ := p341
    have zw341 := c341.size
    refine sx_guardT rfl rfl rfl ?_
    refine sx_pure rfl rfl rfl (px_notP rfl) ?_
    refine sx_pure rfl rfl rfl (px_pick rfl rfl) ?_
    refine sm rfl rfl rfl rfl ?_
    have h5067x1 : ¬ (¬ (((mBin gSub c1 n1 z1 c2 n2 z2).1) = ((mBin gSub c1 n1 z1 c2 n2 z2).1) ∧ ((mBin gSub c1 n1 z1 c2 n2 z2).2.1) = ((mBin gSub c1 n1 z1 c2 n2 z2).2.1) ∧ ((mBin gSub c1 n1 z1 c2 n2 z2).2.2.1) = ((mBin gSub c1 n1 z1 c2 n2 z2).2.2.1))) := by simp [mk_length]
    refine sx_tmpPF (t := 78) rfl h5067x1 ?_
    refine sx_guardT rfl rfl rfl ?_
    refine sm rfl rfl rfl rfl ?_
    refine sx_guardT rfl rfl rfl ?_
    refine sm rfl rfl rfl rfl ?_
    refine sx_guardT rfl rfl rfl ?_
    refine sx_pure rfl rfl rfl (px_neB Tryd.underlying4 rfl rfl) ?_
    refine sx_pure rfl rfl rfl (px_pick rfl rfl) ?_
    refine wl_nil (q_n (k320 _ _ ?_))
    refine sx_sub (Sub.cons (t := 2) rfl (.cons (t := 3) rfl (.cons (t := 4) rfl (.cons (t := 6) rfl (.cons (t := 7) rfl (.cons (t := 10) rfl (.cons (t := 82) rfl (.nil)))))))) ?_
    have h5067x2 : (((mBin gSub c1 n1 z1 c2 n2 z2).2.2.2) != ((mBin gSub c1 n1 z1 c2 n2 z2).2.2.2)) = false := by simp [mk_length]
    refine sx_condBF rfl h5067x2 ?_
    refine sx_skip ?_
    refine q_n (k319 _ _ ?_)
    refine sx_seq fun K342 k342 => sx_region ?_
    refine sa rfl rfl rfl rfl ?_
    refine wl_nil (q_n (k342 _ _ ?_))
    refine sx_seq fun K343 k343 => sx_region ?_
    have f344 := f325.ext c341
    refine sx_pure rfl rfl rfl (px_load rfl (f344.loadA (vs := [.string ((mBin gSub c1 n1 z1 c2 n2 z2).1), .bool ((mBin gSub c1 n1 z1 c2 n2 z2).2.1), s160]) (look_lit rfl) Tryd.isAgg31 Tryd.sizeOf31)) ?_
    refine sm rfl rfl rfl rfl ?_
    have f345 := f335.ext c341
    refine sx_call rfl rfl Tryd.call27 (c_markMoney f345 (by omega) (by omega)) (fun v346 w346 p346 => ?_)
    obtain ⟨rfl, ov1_346, c346⟩ := p346
    have zw346 := c346.size
    refine sa rfl rfl rfl rfl ?_
    refine wl_nil (q_n (k343 _ _ ?_))
    refine sx_seq fun K347 k347 => sx_region ?_
    refine sa rfl rfl rfl rfl ?_
    refine wl_nil (q_n (k347 _ _ ?_))
    refine sx_seq fun K348 k348 => sx_region ?_
    have f349 := f344.chg c346 (by omega)
    refine sx_pure rfl rfl rfl (px_load rfl (f349.loadA (vs := [.string ((mBin gSub c1 n1 z1 c2 n2 z2).1), .bool ((mBin gSub c1 n1 z1 c2 n2 z2).2.1), s160]) (look_lit rfl) Tryd.isAgg31 Tryd.sizeOf31)) ?_
    refine sm rfl rfl rfl rfl ?_
    refine sx_call rfl rfl Tryd.call28 (c_heldMoney ov1_346.sv (by first | omega | (simp only [mk_length]; omega)) (by omega) (by first | assumption | simp [mk_length])) (fun v350 w350 p350 => ?_)
    obtain ⟨rfl, c350⟩ := p350
    have zw350 := c350.size
    refine sa rfl rfl rfl rfl ?_
    refine wl_nil (q_n (k348 _ _ ?_))
    refine sx_sub (Sub.cons (t := 2) rfl (.cons (t := 3) rfl (.cons (t := 4) rfl (.cons (t := 6) rfl (.cons (t := 7) rfl (.cons (t := 10) rfl (.cons (t := 13) rfl (.cons (t := 14) rfl (.nil))))))))) ?_
    refine sx_seq fun K351 k351 => ?_
    refine sx_seq fun K352 k352 => sx_region ?_
    refine sm rfl rfl rfl rfl ?_
    refine sx_pure rfl rfl rfl (px_lt rfl rfl) ?_
    refine wl_nil (q_n (k352 _ _ ?_))
    have h5074 : ¬ ((1 + ↑((mk 1 (((mBin gSub c1 n1 z1 c2 n2 z2).2.2.1)).length)).length : Int) < 0) := by omega
    refine sx_condPF rfl h5074 ?_
    refine sx_skip ?_
    refine q_n (k351 _ _ ?_)
    refine sx_seq fun K353 k353 => ?_
    refine sx_seq fun K354 k354 => sx_region ?_
    refine sm rfl rfl rfl rfl ?_
    refine sm rfl rfl rfl rfl ?_
    refine sx_pure rfl rfl rfl (px_ne rfl rfl) ?_
    refine wl_nil (q_n (k354 _ _ ?_))
    have h5077 : ¬ ((1 + ↑((mk 1 (((mBin gSub c1 n1 z1 c2 n2 z2).2.2.1)).length)).length : Int) ≠ 1 + ↑(((mBin gSub c1 n1 z1 c2 n2 z2).2.2.1)).length) := by simp [mk_length]
    refine sx_condPF rfl h5077 ?_
    refine sx_skip ?_
    refine q_n (k353 _ _ ?_)
    refine sx_seq fun K355 k355 => ?_
    refine sx_cut k355 (fun fr w' => ∃ (gb356x0 : Nat) (gs356x1 : Value) (gl356x1 : Nat) (gu356x1 : Nat), fr = [(4, .bool false), (6, .pointer (some ⟨gb25x0, 0, none⟩)), (7, .bool ((mBin gSub c1 n1 z1 c2 n2 z2).2.2.2)), (10, .pointer (some ⟨b161, 0, none⟩)), (13, .int .i64 (1 + ↑(((mBin gSub c1 n1 z1 c2 n2 z2).2.2.1)).length)), (14, .int .i64 (1 + ↑((mk 1 (((mBin gSub c1 n1 z1 c2 n2 z2).2.2.1)).length)).length)), (15, .pointer (some ⟨gb356x0, 0, none⟩)), (16, .bool ((mBin gSub c1 n1 z1 c2 n2 z2).2.2.2))] ∧ Chg 0 0 w350 w' ∧ (Blk w' gb356x0 [.string ((mBin gSub c1 n1 z1 c2 n2 z2).1), .bool ((mBin gSub c1 n1 z1 c2 n2 z2).2.1), gs356x1] 31) ∧ (Own w' gl356x1 gu356x1 gs356x1 intT (((mBin gSub c1 n1 z1 c2 n2 z2).2.2.1).length) 1 (((mBin gSub c1 n1 z1 c2 n2 z2).2.2.1).map (Value.int .i64))) ∧ (w350.heap.size ≤ gb356x0 ∧ gb356x0 + 1 ≤ w'.heap.size) ∧ (w350.heap.size ≤ gl356x1 ∧ gu356x1 ≤ w'.heap.size) ∧ (gu356x1 ≤ gb356x0 ∨ gb356x0 + 1 ≤ gl356x1)) (fun kc356 => ?_) ?_
    ·
     have f357 := f259.ext d294
     have f358 := f357.ext c296
     have f359 := f358.ext c300
     have f360 := f359.chg c310 (by omega)
     have f361 := f360.chg c318 (by omega)
     have f362 := f361.ext c341
     have f363 := f362.chg c346 (by omega)
     have f364 := f363.ext c350
     have f365 := f262.ext d294
     have f366 := f365.ext c296
     have f367 := f366.ext c300
     have f368 := f367.chg c310 (by omega)
     have f369 := f368.chg c318 (by omega)
     have f370 := f369.ext c341
     have f371 := f370.chg c346 (by omega)
     have f372 := f371.ext c350
     have f373 := f265.ext d294
     have f374 := f373.ext c296
     have f375 := f374.ext c300
     have f376 := f375.chg c310 (by omega)
     have f377 := f376.chg c318 (by omega)
     have f378 := f377.ext c341
     have f379 := f378.chg c346 (by omega)
     have f380 := f379.ext c350
     have f381 := f330.ext c341
     have f382 := f381.chg c346 (by omega)
     have f383 := f382.ext c350
     have f384 := f306.chg c310 (by omega)
     have f385 := f384.chg c318 (by omega)
     have f386 := f385.ext c341
     have f387 := f386.chg c346 (by omega)
     have f388 := f387.ext c350
     have f389 := f315.chg c318 (by omega)
     have f390 := f389.ext c341
     have f391 := f390.chg c346 (by omega)
     have f392 := f391.ext c350
     have f393 := f349.ext c350
     have f394 := f279.ext d294
     have f395 := f394.ext c296
     have f396 := f395.ext c300
     have f397 := f396.chg c310 (by omega)
     have f398 := f397.chg c318 (by omega)
     have f399 := f398.ext c341
     have f400 := f399.chg c346 (by omega)
     have f401 := f400.ext c350
     have f402 := f295.ext c296
     have f403 := f402.ext c300
     have f404 := f403.chg c310 (by omega)
     have f405 := f404.chg c318 (by omega)
     have f406 := f405.ext c341
     have f407 := f406.chg c346 (by omega)
     have f408 := f407.ext c350
     have f409 := f340.ext c341
     have f410 := f409.chg c346 (by omega)
     have f411 := f410.ext c350
     have f412 := ov1_310.chg c318 (by omega)
     have f413 := f412.ext c341
     have f414 := f413.chg c346 (by omega)
     have f415 := f414.ext c350
     have f416 := ov1_318.ext c341
     have f417 := f416.chg c346 (by omega)
     have f418 := f417.ext c350
     have f419 := ov1_346.ext c350
     have f420 := f293.ext d294
     have f421 := f420.ext c296
     have f422 := f421.ext c300
     have f423 := f422.chg c310 (by omega)
     have f424 := f423.chg c318 (by omega)
     have f425 := f424.ext c341
     have f426 := f425.chg c346 (by omega)
     have f427 := f426.ext c350
     have f428 := os2_296.ext c300
     have f429 := f428.chg c310 (by omega)
     have f430 := f429.chg c318 (by omega)
     have f431 := f430.ext c341
     have f432 := f431.chg c346 (by omega)
     have f433 := f432.ext c350
     refine dx_region (fun w' => Chg 0 0 w350 w') (by kernel_rfl) (Chg.zero (Chg.drew _)) ?_
     have d434 := Chg.drew w350
     have s434 : Chg 0 0 w350 (World.drew w350) := Chg.zero (Chg.drew _)
     have y434 : (World.drew w350).heap.size = w350.heap.size := rfl
     generalize World.drew w350 = w434 at *
     have zw434 := d434.size
     refine dx_take 0 rfl rfl rfl rfl (by kernel_rfl) (by kernel_rfl) (by kernel_rfl) s434 (fun _ hS => px_load rfl ((f372.chg hS (by omega)).loadA (vs := [.string c1, .bool n1, v1]) (look_lit rfl) Tryd.isAgg26 Tryd.sizeOf26)) ?_
     refine dx_take 2 rfl rfl rfl rfl (by kernel_rfl) (by kernel_rfl) (by kernel_rfl) s434 (fun _ hS => px_load rfl ((f380.chg hS (by omega)).loadA (vs := [.string c2, .bool n2, v2]) (look_lit rfl) Tryd.isAgg26 Tryd.sizeOf26)) ?_
     refine dx_eff2 1 8 rfl rfl (by kernel_rfl) ?_ ?_
     ·
      have f435 := f401.ext d434
      refine sx_call rfl rfl Tryd.call17 (c_toMoney f435 (by omega)) (fun v436 w436 p436 => ?_)
      obtain ⟨s2436, rfl, os2_436, c436⟩ := p436
      have zw436 := c436.size
      have s437 : Chg 0 0 w350 w436 := (d434.t c436)
      refine wl_nil ?_
      refine dx_next s437 ?_
      refine dx_eff2 3 8 rfl rfl (by kernel_rfl) ?_ ?_
      ·
       have f438 := f408.ext d434
       have f439 := f438.ext c436
       refine sx_call rfl rfl Tryd.call17 (c_toMoney f439 (by omega)) (fun v440 w440 p440 => ?_)
       obtain ⟨s2440, rfl, os2_440, c440⟩ := p440
       have zw440 := c440.size
       have s441 : Chg 0 0 w350 w440 := ((d434.t c436).t c440)
       refine wl_nil ?_
       refine dx_next s441 ?_
       refine dx_eff2 4 8 rfl rfl (by kernel_rfl) ?_ ?_
       ·
        have f442 := f364.ext d434
        have f443 := f442.ext c436
        have f444 := f443.ext c440
        have f445 := os2_436.ext c440
        refine sx_call rfl rfl Tryd.call50 (c_iMoneySub f444 f445.sv os2_440.sv (by omega)) (fun v446 w446 p446 => ?_)
        obtain ⟨s446, rfl, os_446, hl446, c446⟩ := p446
        have zw446 := c446.size
        have s447 : Chg 0 0 w350 w446 := (((d434.t c436).t c440).t c446)
        refine wl_nil ?_
        refine dx_next s447 ?_
        refine dx_take 5 rfl rfl rfl rfl (by kernel_rfl) (by kernel_rfl) (by kernel_rfl) s447 (fun _ hS => px_move rfl) ?_
        refine dx_take 6 rfl rfl rfl rfl (by kernel_rfl) (by kernel_rfl) (by kernel_rfl) s447 (fun _ hS => px_extract (vs := [.agg #[.string ((mBin gSub c1 n1 z1 c2 n2 z2).1), .bool ((mBin gSub c1 n1 z1 c2 n2 z2).2.1), s446], .bool ((mBin gSub c1 n1 z1 c2 n2 z2).2.2.2)]) rfl rfl) ?_
        refine dx_take 7 rfl rfl rfl rfl (by kernel_rfl) (by kernel_rfl) (by kernel_rfl) s447 (fun _ hS => px_extract (vs := [.agg #[.string ((mBin gSub c1 n1 z1 c2 n2 z2).1), .bool ((mBin gSub c1 n1 z1 c2 n2 z2).2.1), s446], .bool ((mBin gSub c1 n1 z1 c2 n2 z2).2.2.2)]) rfl rfl) ?_
        refine dx_eff 8 rfl (by kernel_rfl) ?_
        refine sx_alloc [.string (⟨#[]⟩), .bool false, (.slice none 0 0)] rfl Tryd.zeroValue31 rfl (fun b448 w449 eb448 sb448 fb448 cb448 => ?_)
        have zw449 := cb448.size
        have s450 : Chg 0 0 w350 w449 := ((((d434.t c436).t c440).t c446).t cb448)
        refine wl_nil ?_
        refine dx_next s450 ?_
        refine dx_eff 9 rfl (by kernel_rfl) ?_
        have f452 := os_446.ext cb448
        refine sx_store (vs := [.string ((mBin gSub c1 n1 z1 c2 n2 z2).1), .bool ((mBin gSub c1 n1 z1 c2 n2 z2).2.1), s446]) rfl rfl fb448 rfl Tryd.sizeOf31 (Nat.le_of_ble_eq_true rfl) (one_cons rfl (one_cons rfl (one_cons f452.one one_nil))) (fun w451 sw451 fw451 cw451 => ?_)
        have zw451 := cw451.size
        have gw451 : Blk w451 b448 [.string ((mBin gSub c1 n1 z1 c2 n2 z2).1), .bool ((mBin gSub c1 n1 z1 c2 n2 z2).2.1), s446] 31 := fw451
        have q454 := Chg.step (l := 0) (h := 0) (Chg.zero (l := 0) (h := 0) ((((d434.t c436).t c440).t c446).t cb448)) cw451 (by omega)
        have s453 : Chg 0 0 w350 w451 := q454
        refine wl_nil ?_
        refine dx_next s453 ?_
        refine dx_take 10 rfl rfl rfl rfl (by kernel_rfl) (by kernel_rfl) (by kernel_rfl) s453 (fun _ hS => px_assign rfl) ?_
        refine dx_done (by kernel_rfl) ?_
        have f455 := f452.chg cw451 (by omega)
        have q456 := Chg.step (l := 0) (h := 0) (Chg.zero (l := 0) (h := 0) ((((d434.t c436).t c440).t c446).t cb448)) cw451 (by omega)
        exact q_n (kw_sub (Sub.cons (t := 4) rfl (.cons (t := 6) rfl (.cons (t := 7) rfl (.cons (t := 10) rfl (.cons (t := 13) rfl (.cons (t := 14) rfl (.cons (t := 15) rfl (.cons (t := 16) rfl (.nil))))))))) (kc356 _ _ ⟨b448, s446, w440.heap.size, w446.heap.size, rfl, q456, gw451, f455, by omega, by omega, by omega⟩))
       ·
        refine sx_alloc [.string (⟨#[]⟩), .bool false, (.slice none 0 0)] rfl Tryd.zeroValue31 rfl (fun b457 w458 eb457 sb457 fb457 cb457 => ?_)
        have zw458 := cb457.size
        have s459 : Chg 0 0 w350 w458 := (((d434.t c436).t c440).t cb457)
        refine wl_nil ?_
        refine dx_next s459 ?_
        refine dx_eff 4 rfl (by kernel_rfl) ?_
        have f460 := f364.ext d434
        have f461 := f460.ext c436
        have f462 := f461.ext c440
        have f463 := f462.ext cb457
        have f464 := os2_436.ext c440
        have f465 := f464.ext cb457
        have f466 := os2_440.ext cb457
        refine sx_call rfl rfl Tryd.call50 (c_iMoneySub f463 f465.sv f466.sv (by omega)) (fun v467 w467 p467 => ?_)
        obtain ⟨s467, rfl, os_467, hl467, c467⟩ := p467
        have zw467 := c467.size
        have s468 : Chg 0 0 w350 w467 := ((((d434.t c436).t c440).t cb457).t c467)
        refine wl_nil ?_
        refine dx_next s468 ?_
        refine dx_take 5 rfl rfl rfl rfl (by kernel_rfl) (by kernel_rfl) (by kernel_rfl) s468 (fun _ hS => px_move rfl) ?_
        refine dx_take 6 rfl rfl rfl rfl (by kernel_rfl) (by kernel_rfl) (by kernel_rfl) s468 (fun _ hS => px_extract (vs := [.agg #[.string ((mBin gSub c1 n1 z1 c2 n2 z2).1), .bool ((mBin gSub c1 n1 z1 c2 n2 z2).2.1), s467], .bool ((mBin gSub c1 n1 z1 c2 n2 z2).2.2.2)]) rfl rfl) ?_
        refine dx_take 7 rfl rfl rfl rfl (by kernel_rfl) (by kernel_rfl) (by kernel_rfl) s468 (fun _ hS => px_extract (vs := [.agg #[.string ((mBin gSub c1 n1 z1 c2 n2 z2).1), .bool ((mBin gSub c1 n1 z1 c2 n2 z2).2.1), s467], .bool ((mBin gSub c1 n1 z1 c2 n2 z2).2.2.2)]) rfl rfl) ?_
        refine dx_eff 9 rfl (by kernel_rfl) ?_
        have f470 := fb457.ext c467
        refine sx_store (vs := [.string ((mBin gSub c1 n1 z1 c2 n2 z2).1), .bool ((mBin gSub c1 n1 z1 c2 n2 z2).2.1), s467]) rfl rfl f470 rfl Tryd.sizeOf31 (Nat.le_of_ble_eq_true rfl) (one_cons rfl (one_cons rfl (one_cons os_467.one one_nil))) (fun w469 sw469 fw469 cw469 => ?_)
        have zw469 := cw469.size
        have gw469 : Blk w469 b457 [.string ((mBin gSub c1 n1 z1 c2 n2 z2).1), .bool ((mBin gSub c1 n1 z1 c2 n2 z2).2.1), s467] 31 := fw469
        have q472 := Chg.step (l := 0) (h := 0) (Chg.zero (l := 0) (h := 0) ((((d434.t c436).t c440).t cb457).t c467)) cw469 (by omega)
        have s471 : Chg 0 0 w350 w469 := q472
        refine wl_nil ?_
        refine dx_next s471 ?_
        refine dx_take 10 rfl rfl rfl rfl (by kernel_rfl) (by kernel_rfl) (by kernel_rfl) s471 (fun _ hS => px_assign rfl) ?_
        refine dx_done (by kernel_rfl) ?_
        have f473 := os_467.chg cw469 (by omega)
        have q474 := Chg.step (l := 0) (h := 0) (Chg.zero (l := 0) (h := 0) ((((d434.t c436).t c440).t cb457).t c467)) cw469 (by omega)
        exact q_n (kw_sub (Sub.cons (t := 4) rfl (.cons (t := 6) rfl (.cons (t := 7) rfl (.cons (t := 10) rfl (.cons (t := 13) rfl (.cons (t := 14) rfl (.cons (t := 15) rfl (.cons (t := 16) rfl (.nil))))))))) (kc356 _ _ ⟨b457, s467, w458.heap.size, w467.heap.size, rfl, q474, gw469, f473, by omega, by omega, by omega⟩))
      ·
       refine sx_alloc [.string (⟨#[]⟩), .bool false, (.slice none 0 0)] rfl Tryd.zeroValue31 rfl (fun b475 w476 eb475 sb475 fb475 cb475 => ?_)
       have zw476 := cb475.size
       have s477 : Chg 0 0 w350 w476 := ((d434.t c436).t cb475)
       refine wl_nil ?_
       refine dx_next s477 ?_
       refine dx_eff 3 rfl (by kernel_rfl) ?_
       have f478 := f408.ext d434
       have f479 := f478.ext c436
       have f480 := f479.ext cb475
       refine sx_call rfl rfl Tryd.call17 (c_toMoney f480 (by omega)) (fun v481 w481 p481 => ?_)
       obtain ⟨s2481, rfl, os2_481, c481⟩ := p481
       have zw481 := c481.size
       have s482 : Chg 0 0 w350 w481 := (((d434.t c436).t cb475).t c481)
       refine wl_nil ?_
       refine dx_next s482 ?_
       refine dx_eff 4 rfl (by kernel_rfl) ?_
       have f483 := f364.ext d434
       have f484 := f483.ext c436
       have f485 := f484.ext cb475
       have f486 := f485.ext c481
       have f487 := os2_436.ext cb475
       have f488 := f487.ext c481
       refine sx_call rfl rfl Tryd.call50 (c_iMoneySub f486 f488.sv os2_481.sv (by omega)) (fun v489 w489 p489 => ?_)
       obtain ⟨s489, rfl, os_489, hl489, c489⟩ := p489
       have zw489 := c489.size
       have s490 : Chg 0 0 w350 w489 := ((((d434.t c436).t cb475).t c481).t c489)
       refine wl_nil ?_
       refine dx_next s490 ?_
       refine dx_take 5 rfl rfl rfl rfl (by kernel_rfl) (by kernel_rfl) (by kernel_rfl) s490 (fun _ hS => px_move rfl) ?_
       refine dx_take 6 rfl rfl rfl rfl (by kernel_rfl) (by kernel_rfl) (by kernel_rfl) s490 (fun _ hS => px_extract (vs := [.agg #[.string ((mBin gSub c1 n1 z1 c2 n2 z2).1), .bool ((mBin gSub c1 n1 z1 c2 n2 z2).2.1), s489], .bool ((mBin gSub c1 n1 z1 c2 n2 z2).2.2.2)]) rfl rfl) ?_
       refine dx_take 7 rfl rfl rfl rfl (by kernel_rfl) (by kernel_rfl) (by kernel_rfl) s490 (fun _ hS => px_extract (vs := [.agg #[.string ((mBin gSub c1 n1 z1 c2 n2 z2).1), .bool ((mBin gSub c1 n1 z1 c2 n2 z2).2.1), s489], .bool ((mBin gSub c1 n1 z1 c2 n2 z2).2.2.2)]) rfl rfl) ?_
       refine dx_eff 9 rfl (by kernel_rfl) ?_
       have f492 := fb475.ext c481
       have f493 := f492.ext c489
       refine sx_store (vs := [.string ((mBin gSub c1 n1 z1 c2 n2 z2).1), .bool ((mBin gSub c1 n1 z1 c2 n2 z2).2.1), s489]) rfl rfl f493 rfl Tryd.sizeOf31 (Nat.le_of_ble_eq_true rfl) (one_cons rfl (one_cons rfl (one_cons os_489.one one_nil))) (fun w491 sw491 fw491 cw491 => ?_)
       have zw491 := cw491.size
       have gw491 : Blk w491 b475 [.string ((mBin gSub c1 n1 z1 c2 n2 z2).1), .bool ((mBin gSub c1 n1 z1 c2 n2 z2).2.1), s489] 31 := fw491
       have q495 := Chg.step (l := 0) (h := 0) (Chg.zero (l := 0) (h := 0) ((((d434.t c436).t cb475).t c481).t c489)) cw491 (by omega)
       have s494 : Chg 0 0 w350 w491 := q495
       refine wl_nil ?_
       refine dx_next s494 ?_
       refine dx_take 10 rfl rfl rfl rfl (by kernel_rfl) (by kernel_rfl) (by kernel_rfl) s494 (fun _ hS => px_assign rfl) ?_
       refine dx_done (by kernel_rfl) ?_
       have f496 := os_489.chg cw491 (by omega)
       have q497 := Chg.step (l := 0) (h := 0) (Chg.zero (l := 0) (h := 0) ((((d434.t c436).t cb475).t c481).t c489)) cw491 (by omega)
       exact q_n (kw_sub (Sub.cons (t := 4) rfl (.cons (t := 6) rfl (.cons (t := 7) rfl (.cons (t := 10) rfl (.cons (t := 13) rfl (.cons (t := 14) rfl (.cons (t := 15) rfl (.cons (t := 16) rfl (.nil))))))))) (kc356 _ _ ⟨b475, s489, w481.heap.size, w489.heap.size, rfl, q497, gw491, f496, by omega, by omega, by omega⟩))
     ·
      refine sx_alloc [.string (⟨#[]⟩), .bool false, (.slice none 0 0)] rfl Tryd.zeroValue31 rfl (fun b498 w499 eb498 sb498 fb498 cb498 => ?_)
      have zw499 := cb498.size
      have s500 : Chg 0 0 w350 w499 := (d434.t cb498)
      refine wl_nil ?_
      refine dx_next s500 ?_
      refine dx_eff 1 rfl (by kernel_rfl) ?_
      have f501 := f401.ext d434
      have f502 := f501.ext cb498
      refine sx_call rfl rfl Tryd.call17 (c_toMoney f502 (by omega)) (fun v503 w503 p503 => ?_)
      obtain ⟨s2503, rfl, os2_503, c503⟩ := p503
      have zw503 := c503.size
      have s504 : Chg 0 0 w350 w503 := ((d434.t cb498).t c503)
      refine wl_nil ?_
      refine dx_next s504 ?_
      refine dx_eff 3 rfl (by kernel_rfl) ?_
      have f505 := f408.ext d434
      have f506 := f505.ext cb498
      have f507 := f506.ext c503
      refine sx_call rfl rfl Tryd.call17 (c_toMoney f507 (by omega)) (fun v508 w508 p508 => ?_)
      obtain ⟨s2508, rfl, os2_508, c508⟩ := p508
      have zw508 := c508.size
      have s509 : Chg 0 0 w350 w508 := (((d434.t cb498).t c503).t c508)
      refine wl_nil ?_
      refine dx_next s509 ?_
      refine dx_eff 4 rfl (by kernel_rfl) ?_
      have f510 := f364.ext d434
      have f511 := f510.ext cb498
      have f512 := f511.ext c503
      have f513 := f512.ext c508
      have f514 := os2_503.ext c508
      refine sx_call rfl rfl Tryd.call50 (c_iMoneySub f513 f514.sv os2_508.sv (by omega)) (fun v515 w515 p515 => ?_)
      obtain ⟨s515, rfl, os_515, hl515, c515⟩ := p515
      have zw515 := c515.size
      have s516 : Chg 0 0 w350 w515 := ((((d434.t cb498).t c503).t c508).t c515)
      refine wl_nil ?_
      refine dx_next s516 ?_
      refine dx_take 5 rfl rfl rfl rfl (by kernel_rfl) (by kernel_rfl) (by kernel_rfl) s516 (fun _ hS => px_move rfl) ?_
      refine dx_take 6 rfl rfl rfl rfl (by kernel_rfl) (by kernel_rfl) (by kernel_rfl) s516 (fun _ hS => px_extract (vs := [.agg #[.string ((mBin gSub c1 n1 z1 c2 n2 z2).1), .bool ((mBin gSub c1 n1 z1 c2 n2 z2).2.1), s515], .bool ((mBin gSub c1 n1 z1 c2 n2 z2).2.2.2)]) rfl rfl) ?_
      refine dx_take 7 rfl rfl rfl rfl (by kernel_rfl) (by kernel_rfl) (by kernel_rfl) s516 (fun _ hS => px_extract (vs := [.agg #[.string ((mBin gSub c1 n1 z1 c2 n2 z2).1), .bool ((mBin gSub c1 n1 z1 c2 n2 z2).2.1), s515], .bool ((mBin gSub c1 n1 z1 c2 n2 z2).2.2.2)]) rfl rfl) ?_
      refine dx_eff 9 rfl (by kernel_rfl) ?_
      have f518 := fb498.ext c503
      have f519 := f518.ext c508
      have f520 := f519.ext c515
      refine sx_store (vs := [.string ((mBin gSub c1 n1 z1 c2 n2 z2).1), .bool ((mBin gSub c1 n1 z1 c2 n2 z2).2.1), s515]) rfl rfl f520 rfl Tryd.sizeOf31 (Nat.le_of_ble_eq_true rfl) (one_cons rfl (one_cons rfl (one_cons os_515.one one_nil))) (fun w517 sw517 fw517 cw517 => ?_)
      have zw517 := cw517.size
      have gw517 : Blk w517 b498 [.string ((mBin gSub c1 n1 z1 c2 n2 z2).1), .bool ((mBin gSub c1 n1 z1 c2 n2 z2).2.1), s515] 31 := fw517
      have q522 := Chg.step (l := 0) (h := 0) (Chg.zero (l := 0) (h := 0) ((((d434.t cb498).t c503).t c508).t c515)) cw517 (by omega)
      have s521 : Chg 0 0 w350 w517 := q522
      refine wl_nil ?_
      refine dx_next s521 ?_
      refine dx_take 10 rfl rfl rfl rfl (by kernel_rfl) (by kernel_rfl) (by kernel_rfl) s521 (fun _ hS => px_assign rfl) ?_
      refine dx_done (by kernel_rfl) ?_
      have f523 := os_515.chg cw517 (by omega)
      have q524 := Chg.step (l := 0) (h := 0) (Chg.zero (l := 0) (h := 0) ((((d434.t cb498).t c503).t c508).t c515)) cw517 (by omega)
      exact q_n (kw_sub (Sub.cons (t := 4) rfl (.cons (t := 6) rfl (.cons (t := 7) rfl (.cons (t := 10) rfl (.cons (t := 13) rfl (.cons (t := 14) rfl (.cons (t := 15) rfl (.cons (t := 16) rfl (.nil))))))))) (kc356 _ _ ⟨b498, s515, w508.heap.size, w515.heap.size, rfl, q524, gw517, f523, by omega, by omega, by omega⟩))
    ·
     rintro fr w'356 ⟨gb356x0, gs356x1, gl356x1, gu356x1, rfl, cw'356, xgb356x0, xgs356x1, ygb356x0, ygl356x1, dgl356x1xgb356x0⟩
     have zw'356 := cw'356.size
     refine sx_seq fun K525 k525 => ?_
     refine sx_seq fun K526 k526 => sx_region ?_
     refine sx_pure rfl rfl rfl (px_load rfl (xgb356x0.loadA (vs := [.string ((mBin gSub c1 n1 z1 c2 n2 z2).1), .bool ((mBin gSub c1 n1 z1 c2 n2 z2).2.1), gs356x1]) (look_lit rfl) Tryd.isAgg31 Tryd.sizeOf31)) ?_
     have f527 := f330.ext c341
     have f528 := f527.chg c346 (by omega)
     have f529 := f528.ext c350
     have f530 := f529.ext cw'356
     refine sx_pure rfl rfl rfl (px_load rfl (f530.loadA (vs := [.string ((mBin gSub c1 n1 z1 c2 n2 z2).1), .bool ((mBin gSub c1 n1 z1 c2 n2 z2).2.1), gs25x1]) (look_lit rfl) Tryd.isAgg31 Tryd.sizeOf31)) ?_
     have f531 := f340.ext c341
     have f532 := f531.chg c346 (by omega)
     have f533 := f532.ext c350
     have f534 := f533.ext cw'356
     refine sx_call rfl rfl Tryd.call19 (c_eqMoney xgs356x1.sv f534.sv (by omega)) (fun v535 w535 p535 => ?_)
     obtain ⟨rfl, c535⟩ := p535
     have zw535 := c535.size
     refine sx_pure rfl rfl rfl (px_notP rfl) ?_
     refine sm rfl rfl rfl rfl ?_
     have h5081 : ¬ (¬ (((mBin gSub c1 n1 z1 c2 n2 z2).1) = ((mBin gSub c1 n1 z1 c2 n2 z2).1) ∧ ((mBin gSub c1 n1 z1 c2 n2 z2).2.1) = ((mBin gSub c1 n1 z1 c2 n2 z2).2.1) ∧ ((mBin gSub c1 n1 z1 c2 n2 z2).2.2.1) = ((mBin gSub c1 n1 z1 c2 n2 z2).2.2.1))) := by simp [mk_length]
     refine sx_tmpPF (t := 106) rfl h5081 ?_
     refine sx_guardT rfl rfl rfl ?_
     refine sm rfl rfl rfl rfl ?_
     refine sx_guardT rfl rfl rfl ?_
     refine sm rfl rfl rfl rfl ?_
     refine sx_guardT rfl rfl rfl ?_
     refine sx_pure rfl rfl rfl (px_neB Tryd.underlying4 rfl rfl) ?_
     refine sx_pure rfl rfl rfl (px_pick rfl rfl) ?_
     refine wl_nil (q_n (k526 _ _ ?_))
     refine sx_sub (Sub.cons (t := 4) rfl (.cons (t := 10) rfl (.cons (t := 13) rfl (.cons (t := 14) rfl (.cons (t := 110) rfl (.nil)))))) ?_
     have h5081x1 : (((mBin gSub c1 n1 z1 c2 n2 z2).2.2.2) != ((mBin gSub c1 n1 z1 c2 n2 z2).2.2.2)) = false := by simp [mk_length]
     refine sx_condBF rfl h5081x1 ?_
     refine sx_skip ?_
     refine q_n (k525 _ _ ?_)
     refine sx_seq fun K536 k536 => sx_region ?_
     refine sa rfl rfl rfl rfl ?_
     refine wl_nil (q_n (k536 _ _ ?_))
     refine sx_seq fun K537 k537 => sx_region ?_
     have f538 := f349.ext c350
     have f539 := f538.ext cw'356
     have f540 := f539.ext c535
     refine sx_pure rfl rfl rfl (px_load rfl (f540.loadA (vs := [.string ((mBin gSub c1 n1 z1 c2 n2 z2).1), .bool ((mBin gSub c1 n1 z1 c2 n2 z2).2.1), s160]) (look_lit rfl) Tryd.isAgg31 Tryd.sizeOf31)) ?_
     refine sm rfl rfl rfl rfl ?_
     have f541 := ov1_346.ext c350
     have f542 := f541.ext cw'356
     have f543 := f542.ext c535
     refine sx_call rfl rfl Tryd.call28 (c_heldMoney f543.sv (by first | omega | (simp only [mk_length]; omega)) (by omega) (by first | assumption | simp [mk_length])) (fun v544 w544 p544 => ?_)
     obtain ⟨rfl, c544⟩ := p544
     have zw544 := c544.size
     refine sa rfl rfl rfl rfl ?_
     refine wl_nil (q_n (k537 _ _ ?_))
     refine sx_seq fun K545 k545 => ?_
     refine sx_seq fun K546 k546 => sx_region ?_
     refine sm rfl rfl rfl rfl ?_
     refine sx_pure rfl rfl rfl (px_lt rfl rfl) ?_
     refine wl_nil (q_n (k546 _ _ ?_))
     have h5086 : ¬ ((1 + ↑((mk 1 (((mBin gSub c1 n1 z1 c2 n2 z2).2.2.1)).length)).length : Int) < 0) := by omega
     refine sx_condPF rfl h5086 ?_
     refine sx_skip ?_
     refine q_n (k545 _ _ ?_)
     refine sx_seq fun K547 k547 => ?_
     refine sx_seq fun K548 k548 => sx_region ?_
     refine sm rfl rfl rfl rfl ?_
     refine sm rfl rfl rfl rfl ?_
     refine sx_pure rfl rfl rfl (px_ne rfl rfl) ?_
     refine wl_nil (q_n (k548 _ _ ?_))
     have h5089 : ¬ ((1 + ↑((mk 1 (((mBin gSub c1 n1 z1 c2 n2 z2).2.2.1)).length)).length : Int) ≠ 1 + ↑(((mBin gSub c1 n1 z1 c2 n2 z2).2.2.1)).length) := by simp [mk_length]
     refine sx_condPF rfl h5089 ?_
     refine sx_skip ?_
     refine q_n (k547 _ _ ?_)
     refine sx_seq fun K549 k549 => sx_region ?_
     refine sa rfl rfl rfl rfl ?_
     refine wl_nil (q_n (k549 _ _ ?_))
     refine sx_retc ?_
     refine sx_ret1 Tryd.results13 rfl ?_
     have q550 := Chg.step (l := 0) (h := 0) (Chg.zero (l := 0) (h := 0) ((((((cb2.t cb4).t c11).t c20).t cw'25).t c119).t cb120)) cw122 (by omega)
     have q551 := Chg.step (l := 0) (h := 0) q550 (c135.t cb136) (by omega)
     have q552 := Chg.step (l := 0) (h := 0) q551 cw138 (by omega)
     have q553 := Chg.step (l := 0) (h := 0) q552 (c160.t cb161) (by omega)
     have q554 := Chg.step (l := 0) (h := 0) q553 cw163 (by omega)
     have q555 := Chg.step (l := 0) (h := 0) q554 ((((((c186.t d247).t c249).t c253).t d294).t c296).t c300) (by omega)
     have q556 := Chg.step (l := 0) (h := 0) q555 c310 (by omega)
     have q557 := Chg.step (l := 0) (h := 0) q556 c318 (by omega)
     have q558 := Chg.step (l := 0) (h := 0) q557 c341 (by omega)
     have q559 := Chg.step (l := 0) (h := 0) q558 c346 (by omega)
     have q560 := Chg.step (l := 0) (h := 0) q559 (((c350.t cw'356).t c535).t c544) (by omega)
     exact ⟨rfl, q560⟩

end Go.Proofs.YtomfgkfpihemlaaDoor
