/- Contracts of functions of the program: what each call returns, and that it changes nothing that was. Conditions: as each says. -/
import Derived.Test.YtfoceofnldnbgaaTy
import Derived.Test.YtfoceofnldnbgaaNatK
import Derived.Test.YtfoceofnldnbgaaRm
import Derived.Test.YtfoceofnldnbgaaK0
import Derived.Test.YtfoceofnldnbgaaK1
import Derived.Test.YtfoceofnldnbgaaK4
set_option linter.unusedVariables false
set_option linter.unusedSimpArgs false
namespace Go.Proofs.Ytfoceofnldnbgaa
open Go Go.RowKit
set_option maxRecDepth 100000
set_option maxHeartbeats 1000000
theorem law_DecDiv {w : World} {n1 : Bool} {v1 : Value} {lv1 uv1 : Nat} {z1 : List Int} {p1 : Int} {n2 : Bool} {v2 : Value} {lv2 uv2 : Nat} {z2 : List Int} {p2 : Int} {q : Int} {m : Int} (hv1 : Sl w lv1 uv1 v1 (z1)) (hv2 : Sl w lv2 uv2 v2 (z2)) (bz1 : z1.length ≤ 9223372036854775807) (bz2 : z2.length ≤ 9223372036854775807) (biq : -9223372036854775808 ≤ q ∧ q ≤ 9223372036854775807) (bim : -9223372036854775808 ≤ m ∧ m ≤ 9223372036854775807) :
  Ret Try.prog 7 [.agg #[.bool n1, v1, .int .i64 p1], .agg #[.bool n2, v2, .int .i64 p2], .int .i64 q, .int .i64 m] w fun v w' => v = .bool (true) ∧ Chg 0 0 w w' := by
 have hv10 := hv1.fit
 have hv20 := hv2.fit
 refine sx_enter Try.func7 rfl Try.ntmps7 (Nat.le_of_ble_eq_true rfl) ?_
 refine sx_seq fun K1 k1 => sx_region ?_
 refine sx_box [.bool n1, v1, .int .i64 p1] rfl rfl rfl (fun b2 w3 eb2 sb2 fb2 cb2 => ?_)
 have zw3 := cb2.size
 refine sx_box [.bool n2, v2, .int .i64 p2] rfl rfl rfl (fun b4 w5 eb4 sb4 fb4 cb4 => ?_)
 have zw5 := cb4.size
 refine sa rfl rfl rfl rfl ?_
 refine wl_nil (q_n (k1 _ _ ?_))
 refine sx_seq fun K6 k6 => sx_region ?_
 refine sa rfl rfl rfl rfl ?_
 refine wl_nil (q_n (k6 _ _ ?_))
 refine sx_seq fun K7 k7 => sx_region ?_
 have f8 := fb2.ext cb4
 refine sx_pure rfl rfl rfl (px_load rfl (f8.loadA (vs := [.bool n1, v1, .int .i64 p1]) (look_lit rfl) Try.isAgg26 Try.sizeOf26)) ?_
 refine sm rfl rfl rfl rfl ?_
 have f9 := hv10.ext cb2
 have f10 := f9.ext cb4
 refine sx_call rfl rfl Try.call8 (c_szDec f10 (by omega) (by omega)) (fun v11 w11 p11 => ?_)
 obtain ⟨r11, rfl, hr11, c11⟩ := p11
 have zw11 := c11.size
 refine sa rfl rfl rfl rfl ?_
 refine wl_nil (q_n (k7 _ _ ?_))
 refine sx_seq fun K12 k12 => ?_
 refine sx_seq fun K13 k13 => sx_region ?_
 refine sm rfl rfl rfl rfl ?_
 refine sx_pure rfl rfl rfl (px_lt rfl rfl) ?_
 refine wl_nil (q_n (k13 _ _ ?_))
 refine sx_condP rfl (fun h4694 => ?_) (fun h4694 => ?_)
 ·
  refine sx_seq fun K14 k14 => sx_region ?_
  refine sa rfl rfl rfl rfl ?_
  refine wl_nil (q_n (k14 _ _ ?_))
  refine sx_retc ?_
  refine q_r (sx_ret1 Try.results7 rfl ?_)
  exact ⟨rfl, ((cb2.t cb4).t c11)⟩
 ·
  replace hr11 := hr11.resolve_left h4694
  refine sx_skip ?_
  refine q_n (k12 _ _ ?_)
  refine sx_seq fun K15 k15 => sx_region ?_
  have f16 := fb4.ext c11
  refine sx_pure rfl rfl rfl (px_load rfl (f16.loadA (vs := [.bool n2, v2, .int .i64 p2]) (look_lit rfl) Try.isAgg26 Try.sizeOf26)) ?_
  refine sm rfl rfl rfl rfl ?_
  have f17 := hv20.ext cb2
  have f18 := f17.ext cb4
  have f19 := f18.ext c11
  refine sx_call rfl rfl Try.call8 (c_szDec f19 (by omega) (by omega)) (fun v20 w20 p20 => ?_)
  obtain ⟨r20, rfl, hr20, c20⟩ := p20
  have zw20 := c20.size
  refine sa rfl rfl rfl rfl ?_
  refine wl_nil (q_n (k15 _ _ ?_))
  refine sx_sub (Sub.cons (t := 2) rfl (.cons (t := 3) rfl (.cons (t := 4) rfl (.cons (t := 5) rfl (.cons (t := 8) rfl (.cons (t := 9) rfl (.nil))))))) ?_
  refine sx_seq fun K21 k21 => ?_
  refine sx_seq fun K22 k22 => sx_region ?_
  refine sm rfl rfl rfl rfl ?_
  refine sx_pure rfl rfl rfl (px_lt rfl rfl) ?_
  refine wl_nil (q_n (k22 _ _ ?_))
  refine sx_condP rfl (fun h4698 => ?_) (fun h4698 => ?_)
  ·
   refine sx_seq fun K23 k23 => sx_region ?_
   refine sa rfl rfl rfl rfl ?_
   refine wl_nil (q_n (k23 _ _ ?_))
   refine sx_retc ?_
   refine q_r (sx_ret1 Try.results7 rfl ?_)
   exact ⟨rfl, (((cb2.t cb4).t c11).t c20)⟩
  ·
   replace hr20 := hr20.resolve_left h4698
   refine sx_skip ?_
   refine q_n (k21 _ _ ?_)
   refine sx_seq fun K24 k24 => ?_
   refine sx_cut k24 (fun fr w' => ∃ (gb25x0 : Nat) (gs25x1 : Value) (gl25x1 : Nat) (gu25x1 : Nat), fr = [(2, .int .i64 q), (3, .int .i64 m), (4, .pointer (some ⟨b2, 0, none⟩)), (5, .pointer (some ⟨b4, 0, none⟩)), (8, .bool false), (10, .pointer (some ⟨gb25x0, 0, none⟩)), (11, .bool ((dDiv n1 z1 p1 n2 z2 p2 q m).2.2.2))] ∧ Chg 0 0 w20 w' ∧ (Blk w' gb25x0 [.bool ((dDiv n1 z1 p1 n2 z2 p2 q m).1), gs25x1, .int .i64 ((dDiv n1 z1 p1 n2 z2 p2 q m).2.2.1)] 30) ∧ (Own w' gl25x1 gu25x1 gs25x1 intT (((dDiv n1 z1 p1 n2 z2 p2 q m).2.1).length) 1 (((dDiv n1 z1 p1 n2 z2 p2 q m).2.1).map (Value.int .i64))) ∧ (w20.heap.size ≤ gb25x0 ∧ gb25x0 + 1 ≤ w'.heap.size) ∧ (w20.heap.size ≤ gl25x1 ∧ gu25x1 ≤ w'.heap.size) ∧ (gu25x1 ≤ gb25x0 ∨ gb25x0 + 1 ≤ gl25x1)) (fun kc25 => ?_) ?_
   ·
    have f26 := f8.ext c11
    have f27 := f26.ext c20
    have f28 := f16.ext c20
    have f29 := f10.ext c11
    have f30 := f29.ext c20
    have f31 := f19.ext c20
    refine dx_region (fun w' => Chg 0 0 w20 w') (by kernel_rfl) (Chg.zero (Chg.drew _)) ?_
    have d32 := Chg.drew w20
    have s32 : Chg 0 0 w20 (World.drew w20) := Chg.zero (Chg.drew _)
    have y32 : (World.drew w20).heap.size = w20.heap.size := rfl
    generalize World.drew w20 = w32 at *
    have zw32 := d32.size
    refine dx_take 0 rfl rfl rfl rfl (by kernel_rfl) (by kernel_rfl) (by kernel_rfl) s32 (fun _ hS => px_load rfl ((f27.chg hS (by omega)).loadA (vs := [.bool n1, v1, .int .i64 p1]) (look_lit rfl) Try.isAgg26 Try.sizeOf26)) ?_
    refine dx_take 2 rfl rfl rfl rfl (by kernel_rfl) (by kernel_rfl) (by kernel_rfl) s32 (fun _ hS => px_load rfl ((f28.chg hS (by omega)).loadA (vs := [.bool n2, v2, .int .i64 p2]) (look_lit rfl) Try.isAgg26 Try.sizeOf26)) ?_
    refine dx_take 4 rfl rfl rfl rfl (by kernel_rfl) (by kernel_rfl) (by kernel_rfl) s32 (fun _ hS => px_move rfl) ?_
    refine dx_take 5 rfl rfl rfl rfl (by kernel_rfl) (by kernel_rfl) (by kernel_rfl) s32 (fun _ hS => px_move rfl) ?_
    refine dx_eff2 1 10 rfl rfl (by kernel_rfl) ?_ ?_
    ·
     have f33 := f30.ext d32
     refine sx_call rfl rfl Try.call10 (c_toDec f33 (by omega)) (fun v34 w34 p34 => ?_)
     obtain ⟨s134, rfl, os1_34, c34⟩ := p34
     have zw34 := c34.size
     have s35 : Chg 0 0 w20 w34 := (d32.t c34)
     refine wl_nil ?_
     refine dx_next s35 ?_
     refine dx_eff2 3 10 rfl rfl (by kernel_rfl) ?_ ?_
     ·
      have f36 := f31.ext d32
      have f37 := f36.ext c34
      refine sx_call rfl rfl Try.call10 (c_toDec f37 (by omega)) (fun v38 w38 p38 => ?_)
      obtain ⟨s138, rfl, os1_38, c38⟩ := p38
      have zw38 := c38.size
      have s39 : Chg 0 0 w20 w38 := ((d32.t c34).t c38)
      refine wl_nil ?_
      refine dx_next s39 ?_
      refine dx_eff2 6 10 rfl rfl (by kernel_rfl) ?_ ?_
      ·
       have f40 := os1_34.ext c38
       refine sx_call rfl rfl Try.call29 (c_sDecDiv f40.sv os1_38.sv (by omega)) (fun v41 w41 p41 => ?_)
       obtain ⟨s41, rfl, os_41, hl41, c41⟩ := p41
       have zw41 := c41.size
       have s42 : Chg 0 0 w20 w41 := (((d32.t c34).t c38).t c41)
       refine wl_nil ?_
       refine dx_next s42 ?_
       refine dx_take 7 rfl rfl rfl rfl (by kernel_rfl) (by kernel_rfl) (by kernel_rfl) s42 (fun _ hS => px_move rfl) ?_
       refine dx_take 8 rfl rfl rfl rfl (by kernel_rfl) (by kernel_rfl) (by kernel_rfl) s42 (fun _ hS => px_extract (vs := [.agg #[.bool ((dDiv n1 z1 p1 n2 z2 p2 q m).1), s41, .int .i64 ((dDiv n1 z1 p1 n2 z2 p2 q m).2.2.1)], .bool ((dDiv n1 z1 p1 n2 z2 p2 q m).2.2.2)]) rfl rfl) ?_
       refine dx_take 9 rfl rfl rfl rfl (by kernel_rfl) (by kernel_rfl) (by kernel_rfl) s42 (fun _ hS => px_extract (vs := [.agg #[.bool ((dDiv n1 z1 p1 n2 z2 p2 q m).1), s41, .int .i64 ((dDiv n1 z1 p1 n2 z2 p2 q m).2.2.1)], .bool ((dDiv n1 z1 p1 n2 z2 p2 q m).2.2.2)]) rfl rfl) ?_
       refine dx_eff 10 rfl (by kernel_rfl) ?_
       refine sx_alloc [.bool false, (.slice none 0 0), .int .i64 0] rfl Try.zeroValue30 rfl (fun b43 w44 eb43 sb43 fb43 cb43 => ?_)
       have zw44 := cb43.size
       have s45 : Chg 0 0 w20 w44 := ((((d32.t c34).t c38).t c41).t cb43)
       refine wl_nil ?_
       refine dx_next s45 ?_
       refine dx_eff 11 rfl (by kernel_rfl) ?_
       have f47 := os_41.ext cb43
       refine sx_store (vs := [.bool ((dDiv n1 z1 p1 n2 z2 p2 q m).1), s41, .int .i64 ((dDiv n1 z1 p1 n2 z2 p2 q m).2.2.1)]) rfl rfl fb43 rfl Try.sizeOf30 (Nat.le_of_ble_eq_true rfl) (one_cons rfl (one_cons f47.one (one_cons rfl one_nil))) (fun w46 sw46 fw46 cw46 => ?_)
       have zw46 := cw46.size
       have gw46 : Blk w46 b43 [.bool ((dDiv n1 z1 p1 n2 z2 p2 q m).1), s41, .int .i64 ((dDiv n1 z1 p1 n2 z2 p2 q m).2.2.1)] 30 := fw46
       have q49 := Chg.step (l := 0) (h := 0) (Chg.zero (l := 0) (h := 0) ((((d32.t c34).t c38).t c41).t cb43)) cw46 (by omega)
       have s48 : Chg 0 0 w20 w46 := q49
       refine wl_nil ?_
       refine dx_next s48 ?_
       refine dx_take 12 rfl rfl rfl rfl (by kernel_rfl) (by kernel_rfl) (by kernel_rfl) s48 (fun _ hS => px_assign rfl) ?_
       refine dx_done (by kernel_rfl) ?_
       have f50 := f47.chg cw46 (by omega)
       have q51 := Chg.step (l := 0) (h := 0) (Chg.zero (l := 0) (h := 0) ((((d32.t c34).t c38).t c41).t cb43)) cw46 (by omega)
       exact q_n (kw_sub (Sub.cons (t := 2) rfl (.cons (t := 3) rfl (.cons (t := 4) rfl (.cons (t := 5) rfl (.cons (t := 8) rfl (.cons (t := 10) rfl (.cons (t := 11) rfl (.nil)))))))) (kc25 _ _ ⟨b43, s41, w38.heap.size, w41.heap.size, rfl, q51, gw46, f50, by omega, by omega, by omega⟩))
      ·
       refine sx_alloc [.bool false, (.slice none 0 0), .int .i64 0] rfl Try.zeroValue30 rfl (fun b52 w53 eb52 sb52 fb52 cb52 => ?_)
       have zw53 := cb52.size
       have s54 : Chg 0 0 w20 w53 := (((d32.t c34).t c38).t cb52)
       refine wl_nil ?_
       refine dx_next s54 ?_
       refine dx_eff 6 rfl (by kernel_rfl) ?_
       have f55 := os1_34.ext c38
       have f56 := f55.ext cb52
       have f57 := os1_38.ext cb52
       refine sx_call rfl rfl Try.call29 (c_sDecDiv f56.sv f57.sv (by omega)) (fun v58 w58 p58 => ?_)
       obtain ⟨s58, rfl, os_58, hl58, c58⟩ := p58
       have zw58 := c58.size
       have s59 : Chg 0 0 w20 w58 := ((((d32.t c34).t c38).t cb52).t c58)
       refine wl_nil ?_
       refine dx_next s59 ?_
       refine dx_take 7 rfl rfl rfl rfl (by kernel_rfl) (by kernel_rfl) (by kernel_rfl) s59 (fun _ hS => px_move rfl) ?_
       refine dx_take 8 rfl rfl rfl rfl (by kernel_rfl) (by kernel_rfl) (by kernel_rfl) s59 (fun _ hS => px_extract (vs := [.agg #[.bool ((dDiv n1 z1 p1 n2 z2 p2 q m).1), s58, .int .i64 ((dDiv n1 z1 p1 n2 z2 p2 q m).2.2.1)], .bool ((dDiv n1 z1 p1 n2 z2 p2 q m).2.2.2)]) rfl rfl) ?_
       refine dx_take 9 rfl rfl rfl rfl (by kernel_rfl) (by kernel_rfl) (by kernel_rfl) s59 (fun _ hS => px_extract (vs := [.agg #[.bool ((dDiv n1 z1 p1 n2 z2 p2 q m).1), s58, .int .i64 ((dDiv n1 z1 p1 n2 z2 p2 q m).2.2.1)], .bool ((dDiv n1 z1 p1 n2 z2 p2 q m).2.2.2)]) rfl rfl) ?_
       refine dx_eff 11 rfl (by kernel_rfl) ?_
       have f61 := fb52.ext c58
       refine sx_store (vs := [.bool ((dDiv n1 z1 p1 n2 z2 p2 q m).1), s58, .int .i64 ((dDiv n1 z1 p1 n2 z2 p2 q m).2.2.1)]) rfl rfl f61 rfl Try.sizeOf30 (Nat.le_of_ble_eq_true rfl) (one_cons rfl (one_cons os_58.one (one_cons rfl one_nil))) (fun w60 sw60 fw60 cw60 => ?_)
       have zw60 := cw60.size
       have gw60 : Blk w60 b52 [.bool ((dDiv n1 z1 p1 n2 z2 p2 q m).1), s58, .int .i64 ((dDiv n1 z1 p1 n2 z2 p2 q m).2.2.1)] 30 := fw60
       have q63 := Chg.step (l := 0) (h := 0) (Chg.zero (l := 0) (h := 0) ((((d32.t c34).t c38).t cb52).t c58)) cw60 (by omega)
       have s62 : Chg 0 0 w20 w60 := q63
       refine wl_nil ?_
       refine dx_next s62 ?_
       refine dx_take 12 rfl rfl rfl rfl (by kernel_rfl) (by kernel_rfl) (by kernel_rfl) s62 (fun _ hS => px_assign rfl) ?_
       refine dx_done (by kernel_rfl) ?_
       have f64 := os_58.chg cw60 (by omega)
       have q65 := Chg.step (l := 0) (h := 0) (Chg.zero (l := 0) (h := 0) ((((d32.t c34).t c38).t cb52).t c58)) cw60 (by omega)
       exact q_n (kw_sub (Sub.cons (t := 2) rfl (.cons (t := 3) rfl (.cons (t := 4) rfl (.cons (t := 5) rfl (.cons (t := 8) rfl (.cons (t := 10) rfl (.cons (t := 11) rfl (.nil)))))))) (kc25 _ _ ⟨b52, s58, w53.heap.size, w58.heap.size, rfl, q65, gw60, f64, by omega, by omega, by omega⟩))
     ·
      refine sx_alloc [.bool false, (.slice none 0 0), .int .i64 0] rfl Try.zeroValue30 rfl (fun b66 w67 eb66 sb66 fb66 cb66 => ?_)
      have zw67 := cb66.size
      have s68 : Chg 0 0 w20 w67 := ((d32.t c34).t cb66)
      refine wl_nil ?_
      refine dx_next s68 ?_
      refine dx_eff 3 rfl (by kernel_rfl) ?_
      have f69 := f31.ext d32
      have f70 := f69.ext c34
      have f71 := f70.ext cb66
      refine sx_call rfl rfl Try.call10 (c_toDec f71 (by omega)) (fun v72 w72 p72 => ?_)
      obtain ⟨s172, rfl, os1_72, c72⟩ := p72
      have zw72 := c72.size
      have s73 : Chg 0 0 w20 w72 := (((d32.t c34).t cb66).t c72)
      refine wl_nil ?_
      refine dx_next s73 ?_
      refine dx_eff 6 rfl (by kernel_rfl) ?_
      have f74 := os1_34.ext cb66
      have f75 := f74.ext c72
      refine sx_call rfl rfl Try.call29 (c_sDecDiv f75.sv os1_72.sv (by omega)) (fun v76 w76 p76 => ?_)
      obtain ⟨s76, rfl, os_76, hl76, c76⟩ := p76
      have zw76 := c76.size
      have s77 : Chg 0 0 w20 w76 := ((((d32.t c34).t cb66).t c72).t c76)
      refine wl_nil ?_
      refine dx_next s77 ?_
      refine dx_take 7 rfl rfl rfl rfl (by kernel_rfl) (by kernel_rfl) (by kernel_rfl) s77 (fun _ hS => px_move rfl) ?_
      refine dx_take 8 rfl rfl rfl rfl (by kernel_rfl) (by kernel_rfl) (by kernel_rfl) s77 (fun _ hS => px_extract (vs := [.agg #[.bool ((dDiv n1 z1 p1 n2 z2 p2 q m).1), s76, .int .i64 ((dDiv n1 z1 p1 n2 z2 p2 q m).2.2.1)], .bool ((dDiv n1 z1 p1 n2 z2 p2 q m).2.2.2)]) rfl rfl) ?_
      refine dx_take 9 rfl rfl rfl rfl (by kernel_rfl) (by kernel_rfl) (by kernel_rfl) s77 (fun _ hS => px_extract (vs := [.agg #[.bool ((dDiv n1 z1 p1 n2 z2 p2 q m).1), s76, .int .i64 ((dDiv n1 z1 p1 n2 z2 p2 q m).2.2.1)], .bool ((dDiv n1 z1 p1 n2 z2 p2 q m).2.2.2)]) rfl rfl) ?_
      refine dx_eff 11 rfl (by kernel_rfl) ?_
      have f79 := fb66.ext c72
      have f80 := f79.ext c76
      refine sx_store (vs := [.bool ((dDiv n1 z1 p1 n2 z2 p2 q m).1), s76, .int .i64 ((dDiv n1 z1 p1 n2 z2 p2 q m).2.2.1)]) rfl rfl f80 rfl Try.sizeOf30 (Nat.le_of_ble_eq_true rfl) (one_cons rfl (one_cons os_76.one (one_cons rfl one_nil))) (fun w78 sw78 fw78 cw78 => ?_)
      have zw78 := cw78.size
      have gw78 : Blk w78 b66 [.bool ((dDiv n1 z1 p1 n2 z2 p2 q m).1), s76, .int .i64 ((dDiv n1 z1 p1 n2 z2 p2 q m).2.2.1)] 30 := fw78
      have q82 := Chg.step (l := 0) (h := 0) (Chg.zero (l := 0) (h := 0) ((((d32.t c34).t cb66).t c72).t c76)) cw78 (by omega)
      have s81 : Chg 0 0 w20 w78 := q82
      refine wl_nil ?_
      refine dx_next s81 ?_
      refine dx_take 12 rfl rfl rfl rfl (by kernel_rfl) (by kernel_rfl) (by kernel_rfl) s81 (fun _ hS => px_assign rfl) ?_
      refine dx_done (by kernel_rfl) ?_
      have f83 := os_76.chg cw78 (by omega)
      have q84 := Chg.step (l := 0) (h := 0) (Chg.zero (l := 0) (h := 0) ((((d32.t c34).t cb66).t c72).t c76)) cw78 (by omega)
      exact q_n (kw_sub (Sub.cons (t := 2) rfl (.cons (t := 3) rfl (.cons (t := 4) rfl (.cons (t := 5) rfl (.cons (t := 8) rfl (.cons (t := 10) rfl (.cons (t := 11) rfl (.nil)))))))) (kc25 _ _ ⟨b66, s76, w72.heap.size, w76.heap.size, rfl, q84, gw78, f83, by omega, by omega, by omega⟩))
    ·
     refine sx_alloc [.bool false, (.slice none 0 0), .int .i64 0] rfl Try.zeroValue30 rfl (fun b85 w86 eb85 sb85 fb85 cb85 => ?_)
     have zw86 := cb85.size
     have s87 : Chg 0 0 w20 w86 := (d32.t cb85)
     refine wl_nil ?_
     refine dx_next s87 ?_
     refine dx_eff 1 rfl (by kernel_rfl) ?_
     have f88 := f30.ext d32
     have f89 := f88.ext cb85
     refine sx_call rfl rfl Try.call10 (c_toDec f89 (by omega)) (fun v90 w90 p90 => ?_)
     obtain ⟨s190, rfl, os1_90, c90⟩ := p90
     have zw90 := c90.size
     have s91 : Chg 0 0 w20 w90 := ((d32.t cb85).t c90)
     refine wl_nil ?_
     refine dx_next s91 ?_
     refine dx_eff 3 rfl (by kernel_rfl) ?_
     have f92 := f31.ext d32
     have f93 := f92.ext cb85
     have f94 := f93.ext c90
     refine sx_call rfl rfl Try.call10 (c_toDec f94 (by omega)) (fun v95 w95 p95 => ?_)
     obtain ⟨s195, rfl, os1_95, c95⟩ := p95
     have zw95 := c95.size
     have s96 : Chg 0 0 w20 w95 := (((d32.t cb85).t c90).t c95)
     refine wl_nil ?_
     refine dx_next s96 ?_
     refine dx_eff 6 rfl (by kernel_rfl) ?_
     have f97 := os1_90.ext c95
     refine sx_call rfl rfl Try.call29 (c_sDecDiv f97.sv os1_95.sv (by omega)) (fun v98 w98 p98 => ?_)
     obtain ⟨s98, rfl, os_98, hl98, c98⟩ := p98
     have zw98 := c98.size
     have s99 : Chg 0 0 w20 w98 := ((((d32.t cb85).t c90).t c95).t c98)
     refine wl_nil ?_
     refine dx_next s99 ?_
     refine dx_take 7 rfl rfl rfl rfl (by kernel_rfl) (by kernel_rfl) (by kernel_rfl) s99 (fun _ hS => px_move rfl) ?_
     refine dx_take 8 rfl rfl rfl rfl (by kernel_rfl) (by kernel_rfl) (by kernel_rfl) s99 (fun _ hS => px_extract (vs := [.agg #[.bool ((dDiv n1 z1 p1 n2 z2 p2 q m).1), s98, .int .i64 ((dDiv n1 z1 p1 n2 z2 p2 q m).2.2.1)], .bool ((dDiv n1 z1 p1 n2 z2 p2 q m).2.2.2)]) rfl rfl) ?_
     refine dx_take 9 rfl rfl rfl rfl (by kernel_rfl) (by kernel_rfl) (by kernel_rfl) s99 (fun _ hS => px_extract (vs := [.agg #[.bool ((dDiv n1 z1 p1 n2 z2 p2 q m).1), s98, .int .i64 ((dDiv n1 z1 p1 n2 z2 p2 q m).2.2.1)], .bool ((dDiv n1 z1 p1 n2 z2 p2 q m).2.2.2)]) rfl rfl) ?_
     refine dx_eff 11 rfl (by kernel_rfl) ?_
     have f101 := fb85.ext c90
     have f102 := f101.ext c95
     have f103 := f102.ext c98
     refine sx_store (vs := [.bool ((dDiv n1 z1 p1 n2 z2 p2 q m).1), s98, .int .i64 ((dDiv n1 z1 p1 n2 z2 p2 q m).2.2.1)]) rfl rfl f103 rfl Try.sizeOf30 (Nat.le_of_ble_eq_true rfl) (one_cons rfl (one_cons os_98.one (one_cons rfl one_nil))) (fun w100 sw100 fw100 cw100 => ?_)
     have zw100 := cw100.size
     have gw100 : Blk w100 b85 [.bool ((dDiv n1 z1 p1 n2 z2 p2 q m).1), s98, .int .i64 ((dDiv n1 z1 p1 n2 z2 p2 q m).2.2.1)] 30 := fw100
     have q105 := Chg.step (l := 0) (h := 0) (Chg.zero (l := 0) (h := 0) ((((d32.t cb85).t c90).t c95).t c98)) cw100 (by omega)
     have s104 : Chg 0 0 w20 w100 := q105
     refine wl_nil ?_
     refine dx_next s104 ?_
     refine dx_take 12 rfl rfl rfl rfl (by kernel_rfl) (by kernel_rfl) (by kernel_rfl) s104 (fun _ hS => px_assign rfl) ?_
     refine dx_done (by kernel_rfl) ?_
     have f106 := os_98.chg cw100 (by omega)
     have q107 := Chg.step (l := 0) (h := 0) (Chg.zero (l := 0) (h := 0) ((((d32.t cb85).t c90).t c95).t c98)) cw100 (by omega)
     exact q_n (kw_sub (Sub.cons (t := 2) rfl (.cons (t := 3) rfl (.cons (t := 4) rfl (.cons (t := 5) rfl (.cons (t := 8) rfl (.cons (t := 10) rfl (.cons (t := 11) rfl (.nil)))))))) (kc25 _ _ ⟨b85, s98, w95.heap.size, w98.heap.size, rfl, q107, gw100, f106, by omega, by omega, by omega⟩))
   ·
    rintro fr w'25 ⟨gb25x0, gs25x1, gl25x1, gu25x1, rfl, cw'25, xgb25x0, xgs25x1, ygb25x0, ygl25x1, dgl25x1xgb25x0⟩
    have zw'25 := cw'25.size
    refine sx_seq fun K108 k108 => sx_region ?_
    have f109 := f8.ext c11
    have f110 := f109.ext c20
    have f111 := f110.ext cw'25
    refine sx_pure rfl rfl rfl (px_load rfl (f111.loadA (vs := [.bool n1, v1, .int .i64 p1]) (look_lit rfl) Try.isAgg26 Try.sizeOf26)) ?_
    have f112 := f10.ext c11
    have f113 := f112.ext c20
    have f114 := f113.ext cw'25
    refine sx_call rfl rfl Try.call10 (c_toDec f114 (by omega)) (fun v115 w115 p115 => ?_)
    obtain ⟨s1115, rfl, os1_115, c115⟩ := p115
    have zw115 := c115.size
    refine sx_alloc [.bool false, (.slice none 0 0), .int .i64 0] rfl Try.zeroValue30 rfl (fun b116 w117 eb116 sb116 fb116 cb116 => ?_)
    have zw117 := cb116.size
    have f119 := os1_115.ext cb116
    refine sx_store (vs := [.bool n1, s1115, .int .i64 p1]) rfl rfl fb116 rfl Try.sizeOf30 (Nat.le_of_ble_eq_true rfl) (one_cons rfl (one_cons f119.one (one_cons rfl one_nil))) (fun w118 sw118 fw118 cw118 => ?_)
    have zw118 := cw118.size
    have gw118 : Blk w118 b116 [.bool n1, s1115, .int .i64 p1] 30 := fw118
    refine wl_nil (q_n (k108 _ _ ?_))
    refine sx_seq fun K120 k120 => sx_region ?_
    have f121 := f16.ext c20
    have f122 := f121.ext cw'25
    have f123 := f122.ext c115
    have f124 := f123.ext cb116
    have f125 := f124.chg cw118 (by omega)
    refine sx_pure rfl rfl rfl (px_load rfl (f125.loadA (vs := [.bool n2, v2, .int .i64 p2]) (look_lit rfl) Try.isAgg26 Try.sizeOf26)) ?_
    have f126 := f19.ext c20
    have f127 := f126.ext cw'25
    have f128 := f127.ext c115
    have f129 := f128.ext cb116
    have f130 := f129.chg cw118 (by omega)
    refine sx_call rfl rfl Try.call10 (c_toDec f130 (by omega)) (fun v131 w131 p131 => ?_)
    obtain ⟨s1131, rfl, os1_131, c131⟩ := p131
    have zw131 := c131.size
    refine sx_alloc [.bool false, (.slice none 0 0), .int .i64 0] rfl Try.zeroValue30 rfl (fun b132 w133 eb132 sb132 fb132 cb132 => ?_)
    have zw133 := cb132.size
    have f135 := os1_131.ext cb132
    refine sx_store (vs := [.bool n2, s1131, .int .i64 p2]) rfl rfl fb132 rfl Try.sizeOf30 (Nat.le_of_ble_eq_true rfl) (one_cons rfl (one_cons f135.one (one_cons rfl one_nil))) (fun w134 sw134 fw134 cw134 => ?_)
    have zw134 := cw134.size
    have gw134 : Blk w134 b132 [.bool n2, s1131, .int .i64 p2] 30 := fw134
    refine wl_nil (q_n (k120 _ _ ?_))
    refine sx_seq fun K136 k136 => sx_region ?_
    have f137 := gw118.ext c131
    have f138 := f137.ext cb132
    have f139 := f138.chg cw134 (by omega)
    refine sx_pure rfl rfl rfl (px_load rfl (f139.loadA (vs := [.bool n1, s1115, .int .i64 p1]) (look_lit rfl) Try.isAgg30 Try.sizeOf30)) ?_
    refine sx_pure rfl rfl rfl (px_load rfl (gw134.loadA (vs := [.bool n2, s1131, .int .i64 p2]) (look_lit rfl) Try.isAgg30 Try.sizeOf30)) ?_
    refine sm rfl rfl rfl rfl ?_
    refine sm rfl rfl rfl rfl ?_
    have f140 := f119.chg cw118 (by omega)
    have f141 := f140.ext c131
    have f142 := f141.ext cb132
    have f143 := f142.chg cw134 (by omega)
    have f144 := f135.chg cw134 (by omega)
    refine sx_call rfl rfl Try.call30 (c_iDecDiv f143.sv f144.sv (by omega)) (fun v145 w145 p145 => ?_)
    obtain ⟨s145, rfl, os_145, hl145, c145⟩ := p145
    have zw145 := c145.size
    refine sm rfl rfl rfl rfl ?_
    refine sx_pure rfl rfl rfl (px_extract (vs := [.agg #[.bool ((dDiv n1 z1 p1 n2 z2 p2 q m).1), s145, .int .i64 ((dDiv n1 z1 p1 n2 z2 p2 q m).2.2.1)], .bool ((dDiv n1 z1 p1 n2 z2 p2 q m).2.2.2)]) rfl rfl) ?_
    refine sx_pure rfl rfl rfl (px_extract (vs := [.agg #[.bool ((dDiv n1 z1 p1 n2 z2 p2 q m).1), s145, .int .i64 ((dDiv n1 z1 p1 n2 z2 p2 q m).2.2.1)], .bool ((dDiv n1 z1 p1 n2 z2 p2 q m).2.2.2)]) rfl rfl) ?_
    refine sx_alloc [.bool false, (.slice none 0 0), .int .i64 0] rfl Try.zeroValue30 rfl (fun b146 w147 eb146 sb146 fb146 cb146 => ?_)
    have zw147 := cb146.size
    have f149 := os_145.ext cb146
    refine sx_store (vs := [.bool ((dDiv n1 z1 p1 n2 z2 p2 q m).1), s145, .int .i64 ((dDiv n1 z1 p1 n2 z2 p2 q m).2.2.1)]) rfl rfl fb146 rfl Try.sizeOf30 (Nat.le_of_ble_eq_true rfl) (one_cons rfl (one_cons f149.one (one_cons rfl one_nil))) (fun w148 sw148 fw148 cw148 => ?_)
    have zw148 := cw148.size
    have gw148 : Blk w148 b146 [.bool ((dDiv n1 z1 p1 n2 z2 p2 q m).1), s145, .int .i64 ((dDiv n1 z1 p1 n2 z2 p2 q m).2.2.1)] 30 := fw148
    refine sa rfl rfl rfl rfl ?_
    refine wl_nil (q_n (k136 _ _ ?_))
    refine sx_sub (Sub.cons (t := 2) rfl (.cons (t := 3) rfl (.cons (t := 4) rfl (.cons (t := 5) rfl (.cons (t := 8) rfl (.cons (t := 10) rfl (.cons (t := 11) rfl (.cons (t := 12) rfl (.cons (t := 13) rfl (.cons (t := 14) rfl (.cons (t := 15) rfl (.nil)))))))))))) ?_
    refine sx_seq fun K150 k150 => ?_
    refine sx_seq fun K151 k151 => sx_region ?_
    refine sx_pure rfl rfl rfl (px_load rfl (gw148.loadA (vs := [.bool ((dDiv n1 z1 p1 n2 z2 p2 q m).1), s145, .int .i64 ((dDiv n1 z1 p1 n2 z2 p2 q m).2.2.1)]) (look_lit rfl) Try.isAgg30 Try.sizeOf30)) ?_
    have f152 := xgb25x0.ext c115
    have f153 := f152.ext cb116
    have f154 := f153.chg cw118 (by omega)
    have f155 := f154.ext c131
    have f156 := f155.ext cb132
    have f157 := f156.chg cw134 (by omega)
    have f158 := f157.ext c145
    have f159 := f158.ext cb146
    have f160 := f159.chg cw148 (by omega)
    refine sx_pure rfl rfl rfl (px_load rfl (f160.loadA (vs := [.bool ((dDiv n1 z1 p1 n2 z2 p2 q m).1), gs25x1, .int .i64 ((dDiv n1 z1 p1 n2 z2 p2 q m).2.2.1)]) (look_lit rfl) Try.isAgg30 Try.sizeOf30)) ?_
    have f161 := f149.chg cw148 (by omega)
    have f162 := xgs25x1.ext c115
    have f163 := f162.ext cb116
    have f164 := f163.chg cw118 (by omega)
    have f165 := f164.ext c131
    have f166 := f165.ext cb132
    have f167 := f166.chg cw134 (by omega)
    have f168 := f167.ext c145
    have f169 := f168.ext cb146
    have f170 := f169.chg cw148 (by omega)
    refine sx_call rfl rfl Try.call12 (c_eqDec f161.sv f170.sv (by omega)) (fun v171 w171 p171 => ?_)
    obtain ⟨rfl, c171⟩ := p171
    have zw171 := c171.size
    refine sx_pure rfl rfl rfl (px_notP rfl) ?_
    refine sm rfl rfl rfl rfl ?_
    have h4705 : ¬ (¬ (((dDiv n1 z1 p1 n2 z2 p2 q m).1) = ((dDiv n1 z1 p1 n2 z2 p2 q m).1) ∧ ((dDiv n1 z1 p1 n2 z2 p2 q m).2.1) = ((dDiv n1 z1 p1 n2 z2 p2 q m).2.1) ∧ ((dDiv n1 z1 p1 n2 z2 p2 q m).2.2.1) = ((dDiv n1 z1 p1 n2 z2 p2 q m).2.2.1))) := by simp [mk_length]
    refine sx_tmpPF (t := 57) rfl h4705 ?_
    refine sx_guardT rfl rfl rfl ?_
    refine sm rfl rfl rfl rfl ?_
    refine sx_guardT rfl rfl rfl ?_
    refine sm rfl rfl rfl rfl ?_
    refine sx_guardT rfl rfl rfl ?_
    refine sx_pure rfl rfl rfl (px_neB Try.underlying4 rfl rfl) ?_
    refine sx_pure rfl rfl rfl (px_pick rfl rfl) ?_
    refine wl_nil (q_n (k151 _ _ ?_))
    refine sx_sub (Sub.cons (t := 2) rfl (.cons (t := 3) rfl (.cons (t := 4) rfl (.cons (t := 5) rfl (.cons (t := 8) rfl (.cons (t := 10) rfl (.cons (t := 11) rfl (.cons (t := 12) rfl (.cons (t := 13) rfl (.cons (t := 14) rfl (.cons (t := 15) rfl (.cons (t := 61) rfl (.nil))))))))))))) ?_
    have h4705x1 : (((dDiv n1 z1 p1 n2 z2 p2 q m).2.2.2) != ((dDiv n1 z1 p1 n2 z2 p2 q m).2.2.2)) = false := by simp [mk_length]
    refine sx_condBF rfl h4705x1 ?_
    refine sx_skip ?_
    refine q_n (k150 _ _ ?_)
    refine sx_seq fun K172 k172 => ?_
    refine sx_seq fun K173 k173 => ?_
    have f174 := f111.ext c115
    have f175 := f174.ext cb116
    have f176 := f175.chg cw118 (by omega)
    have f177 := f176.ext c131
    have f178 := f177.ext cb132
    have f179 := f178.chg cw134 (by omega)
    have f180 := f179.ext c145
    have f181 := f180.ext cb146
    have f182 := f181.chg cw148 (by omega)
    have f183 := f182.ext c171
    have f184 := f125.ext c131
    have f185 := f184.ext cb132
    have f186 := f185.chg cw134 (by omega)
    have f187 := f186.ext c145
    have f188 := f187.ext cb146
    have f189 := f188.chg cw148 (by omega)
    have f190 := f189.ext c171
    have f191 := f160.ext c171
    have f192 := f139.ext c145
    have f193 := f192.ext cb146
    have f194 := f193.chg cw148 (by omega)
    have f195 := f194.ext c171
    have f196 := gw134.ext c145
    have f197 := f196.ext cb146
    have f198 := f197.chg cw148 (by omega)
    have f199 := f198.ext c171
    have f200 := gw148.ext c171
    have f201 := f114.ext c115
    have f202 := f201.ext cb116
    have f203 := f202.chg cw118 (by omega)
    have f204 := f203.ext c131
    have f205 := f204.ext cb132
    have f206 := f205.chg cw134 (by omega)
    have f207 := f206.ext c145
    have f208 := f207.ext cb146
    have f209 := f208.chg cw148 (by omega)
    have f210 := f209.ext c171
    have f211 := f130.ext c131
    have f212 := f211.ext cb132
    have f213 := f212.chg cw134 (by omega)
    have f214 := f213.ext c145
    have f215 := f214.ext cb146
    have f216 := f215.chg cw148 (by omega)
    have f217 := f216.ext c171
    have f218 := f170.ext c171
    have f219 := f143.ext c145
    have f220 := f219.ext cb146
    have f221 := f220.chg cw148 (by omega)
    have f222 := f221.ext c171
    have f223 := f144.ext c145
    have f224 := f223.ext cb146
    have f225 := f224.chg cw148 (by omega)
    have f226 := f225.ext c171
    have f227 := f161.ext c171
    refine dx_region (fun w' => Chg 0 0 w171 w') (by kernel_rfl) (Chg.zero (Chg.drew _)) ?_
    have d228 := Chg.drew w171
    have s228 : Chg 0 0 w171 (World.drew w171) := Chg.zero (Chg.drew _)
    have y228 : (World.drew w171).heap.size = w171.heap.size := rfl
    generalize World.drew w171 = w228 at *
    have zw228 := d228.size
    refine dx_take 0 rfl rfl rfl rfl (by kernel_rfl) (by kernel_rfl) (by kernel_rfl) s228 (fun _ hS => px_load rfl ((f195.chg hS (by omega)).loadA (vs := [.bool n1, s1115, .int .i64 p1]) (look_lit rfl) Try.isAgg30 Try.sizeOf30)) ?_
    refine dx_take 1 rfl rfl rfl rfl (by kernel_rfl) (by kernel_rfl) (by kernel_rfl) s228 (fun _ hS => px_load rfl ((f183.chg hS (by omega)).loadA (vs := [.bool n1, v1, .int .i64 p1]) (look_lit rfl) Try.isAgg26 Try.sizeOf26)) ?_
    refine dx_eff 2 rfl (by kernel_rfl) ?_
    have f229 := f210.ext d228
    refine sx_call rfl rfl Try.call10 (c_toDec f229 (by omega)) (fun v230 w230 p230 => ?_)
    obtain ⟨s1230, rfl, os1_230, c230⟩ := p230
    have zw230 := c230.size
    have s231 : Chg 0 0 w171 w230 := (d228.t c230)
    refine wl_nil ?_
    refine dx_next s231 ?_
    refine dx_eff 3 rfl (by kernel_rfl) ?_
    have f232 := f222.ext d228
    have f233 := f232.ext c230
    refine sx_call rfl rfl Try.call12 (c_eqDec f233.sv os1_230.sv (by omega)) (fun v234 w234 p234 => ?_)
    obtain ⟨rfl, c234⟩ := p234
    have zw234 := c234.size
    have s235 : Chg 0 0 w171 w234 := ((d228.t c230).t c234)
    refine wl_nil ?_
    refine dx_next s235 ?_
    refine dx_take 4 rfl rfl rfl rfl (by kernel_rfl) (by kernel_rfl) (by kernel_rfl) s235 (fun _ hS => px_notP rfl) ?_
    refine dx_done (by kernel_rfl) ?_
    refine q_n (k173 _ _ ?_)
    refine sx_sub (Sub.cons (t := 2) rfl (.cons (t := 3) rfl (.cons (t := 4) rfl (.cons (t := 5) rfl (.cons (t := 8) rfl (.cons (t := 10) rfl (.cons (t := 11) rfl (.cons (t := 12) rfl (.cons (t := 13) rfl (.cons (t := 14) rfl (.cons (t := 15) rfl (.cons (t := 66) rfl (.nil))))))))))))) ?_
    have h4708 : ¬ (¬ (n1 = n1 ∧ z1 = z1 ∧ p1 = p1)) := by simp [mk_length]
    refine sx_condPF rfl h4708 ?_
    refine sx_skip ?_
    refine q_n (k172 _ _ ?_)
    refine sx_seq fun K236 k236 => ?_
    refine sx_seq fun K237 k237 => ?_
    have f238 := f183.ext d228
    have f239 := f238.ext c230
    have f240 := f239.ext c234
    have f241 := f190.ext d228
    have f242 := f241.ext c230
    have f243 := f242.ext c234
    have f244 := f191.ext d228
    have f245 := f244.ext c230
    have f246 := f245.ext c234
    have f247 := f195.ext d228
    have f248 := f247.ext c230
    have f249 := f248.ext c234
    have f250 := f199.ext d228
    have f251 := f250.ext c230
    have f252 := f251.ext c234
    have f253 := f200.ext d228
    have f254 := f253.ext c230
    have f255 := f254.ext c234
    have f256 := f229.ext c230
    have f257 := f256.ext c234
    have f258 := f217.ext d228
    have f259 := f258.ext c230
    have f260 := f259.ext c234
    have f261 := f218.ext d228
    have f262 := f261.ext c230
    have f263 := f262.ext c234
    have f264 := f233.ext c234
    have f265 := f226.ext d228
    have f266 := f265.ext c230
    have f267 := f266.ext c234
    have f268 := f227.ext d228
    have f269 := f268.ext c230
    have f270 := f269.ext c234
    have f271 := os1_230.ext c234
    refine dx_region (fun w' => Chg 0 0 w234 w') (by kernel_rfl) (Chg.zero (Chg.drew _)) ?_
    have d272 := Chg.drew w234
    have s272 : Chg 0 0 w234 (World.drew w234) := Chg.zero (Chg.drew _)
    have y272 : (World.drew w234).heap.size = w234.heap.size := rfl
    generalize World.drew w234 = w272 at *
    have zw272 := d272.size
    refine dx_take 0 rfl rfl rfl rfl (by kernel_rfl) (by kernel_rfl) (by kernel_rfl) s272 (fun _ hS => px_load rfl ((f252.chg hS (by omega)).loadA (vs := [.bool n2, s1131, .int .i64 p2]) (look_lit rfl) Try.isAgg30 Try.sizeOf30)) ?_
    refine dx_take 1 rfl rfl rfl rfl (by kernel_rfl) (by kernel_rfl) (by kernel_rfl) s272 (fun _ hS => px_load rfl ((f243.chg hS (by omega)).loadA (vs := [.bool n2, v2, .int .i64 p2]) (look_lit rfl) Try.isAgg26 Try.sizeOf26)) ?_
    refine dx_eff 2 rfl (by kernel_rfl) ?_
    have f273 := f260.ext d272
    refine sx_call rfl rfl Try.call10 (c_toDec f273 (by omega)) (fun v274 w274 p274 => ?_)
    obtain ⟨s1274, rfl, os1_274, c274⟩ := p274
    have zw274 := c274.size
    have s275 : Chg 0 0 w234 w274 := (d272.t c274)
    refine wl_nil ?_
    refine dx_next s275 ?_
    refine dx_eff 3 rfl (by kernel_rfl) ?_
    have f276 := f267.ext d272
    have f277 := f276.ext c274
    refine sx_call rfl rfl Try.call12 (c_eqDec f277.sv os1_274.sv (by omega)) (fun v278 w278 p278 => ?_)
    obtain ⟨rfl, c278⟩ := p278
    have zw278 := c278.size
    have s279 : Chg 0 0 w234 w278 := ((d272.t c274).t c278)
    refine wl_nil ?_
    refine dx_next s279 ?_
    refine dx_take 4 rfl rfl rfl rfl (by kernel_rfl) (by kernel_rfl) (by kernel_rfl) s279 (fun _ hS => px_notP rfl) ?_
    refine dx_done (by kernel_rfl) ?_
    refine q_n (k237 _ _ ?_)
    refine sx_sub (Sub.cons (t := 2) rfl (.cons (t := 3) rfl (.cons (t := 4) rfl (.cons (t := 5) rfl (.cons (t := 8) rfl (.cons (t := 10) rfl (.cons (t := 11) rfl (.cons (t := 12) rfl (.cons (t := 13) rfl (.cons (t := 14) rfl (.cons (t := 15) rfl (.cons (t := 71) rfl (.nil))))))))))))) ?_
    have h4711 : ¬ (¬ (n2 = n2 ∧ z2 = z2 ∧ p2 = p2)) := by simp [mk_length]
    refine sx_condPF rfl h4711 ?_
    refine sx_skip ?_
    refine q_n (k236 _ _ ?_)
    refine sx_seq fun K280 k280 => sx_region ?_
    refine sa rfl rfl rfl rfl ?_
    refine wl_nil (q_n (k280 _ _ ?_))
    refine sx_seq fun K281 k281 => sx_region ?_
    have f282 := f249.ext d272
    have f283 := f282.ext c274
    have f284 := f283.ext c278
    refine sx_pure rfl rfl rfl (px_load rfl (f284.loadA (vs := [.bool n1, s1115, .int .i64 p1]) (look_lit rfl) Try.isAgg30 Try.sizeOf30)) ?_
    refine sm rfl rfl rfl rfl ?_
    have f285 := f264.ext d272
    have f286 := f285.ext c274
    have f287 := f286.ext c278
    refine sx_call rfl rfl Try.call13 (c_markDec f287 (by omega) (by omega)) (fun v288 w288 p288 => ?_)
    obtain ⟨rfl, ov1_288, c288⟩ := p288
    have zw288 := c288.size
    refine sa rfl rfl rfl rfl ?_
    refine wl_nil (q_n (k281 _ _ ?_))
    refine sx_sub (Sub.cons (t := 2) rfl (.cons (t := 3) rfl (.cons (t := 4) rfl (.cons (t := 5) rfl (.cons (t := 8) rfl (.cons (t := 10) rfl (.cons (t := 11) rfl (.cons (t := 13) rfl (.cons (t := 14) rfl (.cons (t := 15) rfl (.cons (t := 16) rfl (.nil)))))))))))) ?_
    refine sx_seq fun K289 k289 => sx_region ?_
    have f290 := f252.ext d272
    have f291 := f290.ext c274
    have f292 := f291.ext c278
    have f293 := f292.chg c288 (by omega)
    refine sx_pure rfl rfl rfl (px_load rfl (f293.loadA (vs := [.bool n2, s1131, .int .i64 p2]) (look_lit rfl) Try.isAgg30 Try.sizeOf30)) ?_
    refine sm rfl rfl rfl rfl ?_
    have f294 := f277.ext c278
    have f295 := f294.chg c288 (by omega)
    refine sx_call rfl rfl Try.call13 (c_markDec f295 (by omega) (by omega)) (fun v296 w296 p296 => ?_)
    obtain ⟨rfl, ov1_296, c296⟩ := p296
    have zw296 := c296.size
    refine sa rfl rfl rfl rfl ?_
    refine wl_nil (q_n (k289 _ _ ?_))
    refine sx_seq fun K297 k297 => ?_
    refine sx_seq fun K298 k298 => sx_region ?_
    refine sm rfl rfl rfl rfl ?_
    refine sx_pure rfl rfl rfl (px_lt rfl rfl) ?_
    refine sm rfl rfl rfl rfl ?_
    have h4717 : ¬ ((((1 : Int) + ↑(z1).length) + ↑(z2).length : Int) < 0) := by omega
    refine sx_tmpPF (t := 80) rfl h4717 ?_
    refine sx_guardT rfl rfl rfl ?_
    have f299 := f255.ext d272
    have f300 := f299.ext c274
    have f301 := f300.ext c278
    have f302 := f301.chg c288 (by omega)
    have f303 := f302.chg c296 (by omega)
    refine sx_pure rfl rfl rfl (px_load rfl (f303.loadA (vs := [.bool ((dDiv n1 z1 p1 n2 z2 p2 q m).1), s145, .int .i64 ((dDiv n1 z1 p1 n2 z2 p2 q m).2.2.1)]) (look_lit rfl) Try.isAgg30 Try.sizeOf30)) ?_
    refine sx_guardT rfl rfl rfl ?_
    have f304 := f246.ext d272
    have f305 := f304.ext c274
    have f306 := f305.ext c278
    have f307 := f306.chg c288 (by omega)
    have f308 := f307.chg c296 (by omega)
    refine sx_pure rfl rfl rfl (px_load rfl (f308.loadA (vs := [.bool ((dDiv n1 z1 p1 n2 z2 p2 q m).1), gs25x1, .int .i64 ((dDiv n1 z1 p1 n2 z2 p2 q m).2.2.1)]) (look_lit rfl) Try.isAgg30 Try.sizeOf30)) ?_
    refine sx_guardT rfl rfl rfl ?_
    have f309 := f270.ext d272
    have f310 := f309.ext c274
    have f311 := f310.ext c278
    have f312 := f311.chg c288 (by omega)
    have f313 := f312.chg c296 (by omega)
    have f314 := f263.ext d272
    have f315 := f314.ext c274
    have f316 := f315.ext c278
    have f317 := f316.chg c288 (by omega)
    have f318 := f317.chg c296 (by omega)
    refine sx_call rfl rfl Try.call12 (c_eqDec f313.sv f318.sv (by omega)) (fun v319 w319 p319 => ?_)
    obtain ⟨rfl, c319⟩ := p319
    have zw319 := c319.size
    refine sx_guardT rfl rfl rfl ?_
    refine sx_pure rfl rfl rfl (px_notP rfl) ?_
    refine sx_pure rfl rfl rfl (px_pick rfl rfl) ?_
    refine sm rfl rfl rfl rfl ?_
    have h4717x1 : ¬ (¬ (((dDiv n1 z1 p1 n2 z2 p2 q m).1) = ((dDiv n1 z1 p1 n2 z2 p2 q m).1) ∧ ((dDiv n1 z1 p1 n2 z2 p2 q m).2.1) = ((dDiv n1 z1 p1 n2 z2 p2 q m).2.1) ∧ ((dDiv n1 z1 p1 n2 z2 p2 q m).2.2.1) = ((dDiv n1 z1 p1 n2 z2 p2 q m).2.2.1))) := by simp [mk_length]
    refine sx_tmpPF (t := 86) rfl h4717x1 ?_
    refine sx_guardT rfl rfl rfl ?_
    refine sm rfl rfl rfl rfl ?_
    refine sx_guardT rfl rfl rfl ?_
    refine sm rfl rfl rfl rfl ?_
    refine sx_guardT rfl rfl rfl ?_
    refine sx_pure rfl rfl rfl (px_neB Try.underlying4 rfl rfl) ?_
    refine sx_pure rfl rfl rfl (px_pick rfl rfl) ?_
    refine wl_nil (q_n (k298 _ _ ?_))
    refine sx_sub (Sub.cons (t := 2) rfl (.cons (t := 3) rfl (.cons (t := 4) rfl (.cons (t := 5) rfl (.cons (t := 8) rfl (.cons (t := 10) rfl (.cons (t := 11) rfl (.cons (t := 14) rfl (.cons (t := 90) rfl (.nil)))))))))) ?_
    have h4717x2 : (((dDiv n1 z1 p1 n2 z2 p2 q m).2.2.2) != ((dDiv n1 z1 p1 n2 z2 p2 q m).2.2.2)) = false := by simp [mk_length]
    refine sx_condBF rfl h4717x2 ?_
    refine sx_skip ?_
    refine q_n (k297 _ _ ?_)
    refine sx_seq fun K320 k320 => sx_region ?_
    refine sa rfl rfl rfl rfl ?_
    refine wl_nil (q_n (k320 _ _ ?_))
    refine sx_seq fun K321 k321 => sx_region ?_
    have f322 := f303.ext c319
    refine sx_pure rfl rfl rfl (px_load rfl (f322.loadA (vs := [.bool ((dDiv n1 z1 p1 n2 z2 p2 q m).1), s145, .int .i64 ((dDiv n1 z1 p1 n2 z2 p2 q m).2.2.1)]) (look_lit rfl) Try.isAgg30 Try.sizeOf30)) ?_
    refine sm rfl rfl rfl rfl ?_
    have f323 := f313.ext c319
    refine sx_call rfl rfl Try.call13 (c_markDec f323 (by omega) (by omega)) (fun v324 w324 p324 => ?_)
    obtain ⟨rfl, ov1_324, c324⟩ := p324
    have zw324 := c324.size
    refine sa rfl rfl rfl rfl ?_
    refine wl_nil (q_n (k321 _ _ ?_))
    refine sx_seq fun K325 k325 => sx_region ?_
    refine sa rfl rfl rfl rfl ?_
    refine wl_nil (q_n (k325 _ _ ?_))
    refine sx_seq fun K326 k326 => sx_region ?_
    have f327 := f322.chg c324 (by omega)
    refine sx_pure rfl rfl rfl (px_load rfl (f327.loadA (vs := [.bool ((dDiv n1 z1 p1 n2 z2 p2 q m).1), s145, .int .i64 ((dDiv n1 z1 p1 n2 z2 p2 q m).2.2.1)]) (look_lit rfl) Try.isAgg30 Try.sizeOf30)) ?_
    refine sm rfl rfl rfl rfl ?_
    refine sx_call rfl rfl Try.call14 (c_heldDec ov1_324.sv (by first | omega | (simp only [mk_length]; omega)) (by omega) (by first | assumption | simp [mk_length])) (fun v328 w328 p328 => ?_)
    obtain ⟨rfl, c328⟩ := p328
    have zw328 := c328.size
    refine sa rfl rfl rfl rfl ?_
    refine wl_nil (q_n (k326 _ _ ?_))
    refine sx_sub (Sub.cons (t := 2) rfl (.cons (t := 3) rfl (.cons (t := 4) rfl (.cons (t := 5) rfl (.cons (t := 8) rfl (.cons (t := 10) rfl (.cons (t := 11) rfl (.cons (t := 14) rfl (.cons (t := 17) rfl (.cons (t := 18) rfl (.nil))))))))))) ?_
    refine sx_seq fun K329 k329 => ?_
    refine sx_seq fun K330 k330 => sx_region ?_
    refine sm rfl rfl rfl rfl ?_
    refine sx_pure rfl rfl rfl (px_lt rfl rfl) ?_
    refine wl_nil (q_n (k330 _ _ ?_))
    have h4724 : ¬ (((1 : Int) + ↑((mk (1 : Int) (((dDiv n1 z1 p1 n2 z2 p2 q m).2.1)).length)).length : Int) < 0) := by omega
    refine sx_condPF rfl h4724 ?_
    refine sx_skip ?_
    refine q_n (k329 _ _ ?_)
    refine sx_seq fun K331 k331 => ?_
    refine sx_seq fun K332 k332 => sx_region ?_
    refine sm rfl rfl rfl rfl ?_
    refine sm rfl rfl rfl rfl ?_
    refine sx_pure rfl rfl rfl (px_ne rfl rfl) ?_
    refine wl_nil (q_n (k332 _ _ ?_))
    refine sx_sub (Sub.cons (t := 2) rfl (.cons (t := 3) rfl (.cons (t := 4) rfl (.cons (t := 5) rfl (.cons (t := 8) rfl (.cons (t := 10) rfl (.cons (t := 11) rfl (.cons (t := 14) rfl (.cons (t := 17) rfl (.cons (t := 18) rfl (.cons (t := 101) rfl (.nil)))))))))))) ?_
    have h4727 : ¬ (((1 : Int) + ↑((mk (1 : Int) (((dDiv n1 z1 p1 n2 z2 p2 q m).2.1)).length)).length : Int) ≠ (1 : Int) + ↑(((dDiv n1 z1 p1 n2 z2 p2 q m).2.1)).length) := by simp [mk_length]
    refine sx_condPF rfl h4727 ?_
    refine sx_skip ?_
    refine q_n (k331 _ _ ?_)
    refine sx_seq fun K333 k333 => ?_
    refine sx_cut k333 (fun fr w' => ∃ (gb334x0 : Nat) (gs334x1 : Value) (gl334x1 : Nat) (gu334x1 : Nat), fr = [(8, .bool false), (10, .pointer (some ⟨gb25x0, 0, none⟩)), (11, .bool ((dDiv n1 z1 p1 n2 z2 p2 q m).2.2.2)), (14, .pointer (some ⟨b146, 0, none⟩)), (17, .int .i64 ((1 : Int) + ↑(((dDiv n1 z1 p1 n2 z2 p2 q m).2.1)).length)), (18, .int .i64 ((1 : Int) + ↑((mk (1 : Int) (((dDiv n1 z1 p1 n2 z2 p2 q m).2.1)).length)).length)), (19, .pointer (some ⟨gb334x0, 0, none⟩)), (20, .bool ((dDiv n1 z1 p1 n2 z2 p2 q m).2.2.2))] ∧ Chg 0 0 w328 w' ∧ (Blk w' gb334x0 [.bool ((dDiv n1 z1 p1 n2 z2 p2 q m).1), gs334x1, .int .i64 ((dDiv n1 z1 p1 n2 z2 p2 q m).2.2.1)] 30) ∧ (Own w' gl334x1 gu334x1 gs334x1 intT (((dDiv n1 z1 p1 n2 z2 p2 q m).2.1).length) 1 (((dDiv n1 z1 p1 n2 z2 p2 q m).2.1).map (Value.int .i64))) ∧ (w328.heap.size ≤ gb334x0 ∧ gb334x0 + 1 ≤ w'.heap.size) ∧ (w328.heap.size ≤ gl334x1 ∧ gu334x1 ≤ w'.heap.size) ∧ (gu334x1 ≤ gb334x0 ∨ gb334x0 + 1 ≤ gl334x1)) (fun kc334 => ?_) ?_
    ·
     have f335 := f240.ext d272
     have f336 := f335.ext c274
     have f337 := f336.ext c278
     have f338 := f337.chg c288 (by omega)
     have f339 := f338.chg c296 (by omega)
     have f340 := f339.ext c319
     have f341 := f340.chg c324 (by omega)
     have f342 := f341.ext c328
     have f343 := f243.ext d272
     have f344 := f343.ext c274
     have f345 := f344.ext c278
     have f346 := f345.chg c288 (by omega)
     have f347 := f346.chg c296 (by omega)
     have f348 := f347.ext c319
     have f349 := f348.chg c324 (by omega)
     have f350 := f349.ext c328
     have f351 := f308.ext c319
     have f352 := f351.chg c324 (by omega)
     have f353 := f352.ext c328
     have f354 := f284.chg c288 (by omega)
     have f355 := f354.chg c296 (by omega)
     have f356 := f355.ext c319
     have f357 := f356.chg c324 (by omega)
     have f358 := f357.ext c328
     have f359 := f293.chg c296 (by omega)
     have f360 := f359.ext c319
     have f361 := f360.chg c324 (by omega)
     have f362 := f361.ext c328
     have f363 := f327.ext c328
     have f364 := f257.ext d272
     have f365 := f364.ext c274
     have f366 := f365.ext c278
     have f367 := f366.chg c288 (by omega)
     have f368 := f367.chg c296 (by omega)
     have f369 := f368.ext c319
     have f370 := f369.chg c324 (by omega)
     have f371 := f370.ext c328
     have f372 := f273.ext c274
     have f373 := f372.ext c278
     have f374 := f373.chg c288 (by omega)
     have f375 := f374.chg c296 (by omega)
     have f376 := f375.ext c319
     have f377 := f376.chg c324 (by omega)
     have f378 := f377.ext c328
     have f379 := f318.ext c319
     have f380 := f379.chg c324 (by omega)
     have f381 := f380.ext c328
     have f382 := ov1_288.chg c296 (by omega)
     have f383 := f382.ext c319
     have f384 := f383.chg c324 (by omega)
     have f385 := f384.ext c328
     have f386 := ov1_296.ext c319
     have f387 := f386.chg c324 (by omega)
     have f388 := f387.ext c328
     have f389 := ov1_324.ext c328
     have f390 := f271.ext d272
     have f391 := f390.ext c274
     have f392 := f391.ext c278
     have f393 := f392.chg c288 (by omega)
     have f394 := f393.chg c296 (by omega)
     have f395 := f394.ext c319
     have f396 := f395.chg c324 (by omega)
     have f397 := f396.ext c328
     have f398 := os1_274.ext c278
     have f399 := f398.chg c288 (by omega)
     have f400 := f399.chg c296 (by omega)
     have f401 := f400.ext c319
     have f402 := f401.chg c324 (by omega)
     have f403 := f402.ext c328
     refine dx_region (fun w' => Chg 0 0 w328 w') (by kernel_rfl) (Chg.zero (Chg.drew _)) ?_
     have d404 := Chg.drew w328
     have s404 : Chg 0 0 w328 (World.drew w328) := Chg.zero (Chg.drew _)
     have y404 : (World.drew w328).heap.size = w328.heap.size := rfl
     generalize World.drew w328 = w404 at *
     have zw404 := d404.size
     refine dx_take 0 rfl rfl rfl rfl (by kernel_rfl) (by kernel_rfl) (by kernel_rfl) s404 (fun _ hS => px_load rfl ((f342.chg hS (by omega)).loadA (vs := [.bool n1, v1, .int .i64 p1]) (look_lit rfl) Try.isAgg26 Try.sizeOf26)) ?_
     refine dx_take 2 rfl rfl rfl rfl (by kernel_rfl) (by kernel_rfl) (by kernel_rfl) s404 (fun _ hS => px_load rfl ((f350.chg hS (by omega)).loadA (vs := [.bool n2, v2, .int .i64 p2]) (look_lit rfl) Try.isAgg26 Try.sizeOf26)) ?_
     refine dx_take 4 rfl rfl rfl rfl (by kernel_rfl) (by kernel_rfl) (by kernel_rfl) s404 (fun _ hS => px_move rfl) ?_
     refine dx_take 5 rfl rfl rfl rfl (by kernel_rfl) (by kernel_rfl) (by kernel_rfl) s404 (fun _ hS => px_move rfl) ?_
     refine dx_eff2 1 10 rfl rfl (by kernel_rfl) ?_ ?_
     ·
      have f405 := f371.ext d404
      refine sx_call rfl rfl Try.call10 (c_toDec f405 (by omega)) (fun v406 w406 p406 => ?_)
      obtain ⟨s1406, rfl, os1_406, c406⟩ := p406
      have zw406 := c406.size
      have s407 : Chg 0 0 w328 w406 := (d404.t c406)
      refine wl_nil ?_
      refine dx_next s407 ?_
      refine dx_eff2 3 10 rfl rfl (by kernel_rfl) ?_ ?_
      ·
       have f408 := f378.ext d404
       have f409 := f408.ext c406
       refine sx_call rfl rfl Try.call10 (c_toDec f409 (by omega)) (fun v410 w410 p410 => ?_)
       obtain ⟨s1410, rfl, os1_410, c410⟩ := p410
       have zw410 := c410.size
       have s411 : Chg 0 0 w328 w410 := ((d404.t c406).t c410)
       refine wl_nil ?_
       refine dx_next s411 ?_
       refine dx_eff2 6 10 rfl rfl (by kernel_rfl) ?_ ?_
       ·
        have f412 := os1_406.ext c410
        refine sx_call rfl rfl Try.call30 (c_iDecDiv f412.sv os1_410.sv (by omega)) (fun v413 w413 p413 => ?_)
        obtain ⟨s413, rfl, os_413, hl413, c413⟩ := p413
        have zw413 := c413.size
        have s414 : Chg 0 0 w328 w413 := (((d404.t c406).t c410).t c413)
        refine wl_nil ?_
        refine dx_next s414 ?_
        refine dx_take 7 rfl rfl rfl rfl (by kernel_rfl) (by kernel_rfl) (by kernel_rfl) s414 (fun _ hS => px_move rfl) ?_
        refine dx_take 8 rfl rfl rfl rfl (by kernel_rfl) (by kernel_rfl) (by kernel_rfl) s414 (fun _ hS => px_extract (vs := [.agg #[.bool ((dDiv n1 z1 p1 n2 z2 p2 q m).1), s413, .int .i64 ((dDiv n1 z1 p1 n2 z2 p2 q m).2.2.1)], .bool ((dDiv n1 z1 p1 n2 z2 p2 q m).2.2.2)]) rfl rfl) ?_
        refine dx_take 9 rfl rfl rfl rfl (by kernel_rfl) (by kernel_rfl) (by kernel_rfl) s414 (fun _ hS => px_extract (vs := [.agg #[.bool ((dDiv n1 z1 p1 n2 z2 p2 q m).1), s413, .int .i64 ((dDiv n1 z1 p1 n2 z2 p2 q m).2.2.1)], .bool ((dDiv n1 z1 p1 n2 z2 p2 q m).2.2.2)]) rfl rfl) ?_
        refine dx_eff 10 rfl (by kernel_rfl) ?_
        refine sx_alloc [.bool false, (.slice none 0 0), .int .i64 0] rfl Try.zeroValue30 rfl (fun b415 w416 eb415 sb415 fb415 cb415 => ?_)
        have zw416 := cb415.size
        have s417 : Chg 0 0 w328 w416 := ((((d404.t c406).t c410).t c413).t cb415)
        refine wl_nil ?_
        refine dx_next s417 ?_
        refine dx_eff 11 rfl (by kernel_rfl) ?_
        have f419 := os_413.ext cb415
        refine sx_store (vs := [.bool ((dDiv n1 z1 p1 n2 z2 p2 q m).1), s413, .int .i64 ((dDiv n1 z1 p1 n2 z2 p2 q m).2.2.1)]) rfl rfl fb415 rfl Try.sizeOf30 (Nat.le_of_ble_eq_true rfl) (one_cons rfl (one_cons f419.one (one_cons rfl one_nil))) (fun w418 sw418 fw418 cw418 => ?_)
        have zw418 := cw418.size
        have gw418 : Blk w418 b415 [.bool ((dDiv n1 z1 p1 n2 z2 p2 q m).1), s413, .int .i64 ((dDiv n1 z1 p1 n2 z2 p2 q m).2.2.1)] 30 := fw418
        have q421 := Chg.step (l := 0) (h := 0) (Chg.zero (l := 0) (h := 0) ((((d404.t c406).t c410).t c413).t cb415)) cw418 (by omega)
        have s420 : Chg 0 0 w328 w418 := q421
        refine wl_nil ?_
        refine dx_next s420 ?_
        refine dx_take 12 rfl rfl rfl rfl (by kernel_rfl) (by kernel_rfl) (by kernel_rfl) s420 (fun _ hS => px_assign rfl) ?_
        refine dx_done (by kernel_rfl) ?_
        have f422 := f419.chg cw418 (by omega)
        have q423 := Chg.step (l := 0) (h := 0) (Chg.zero (l := 0) (h := 0) ((((d404.t c406).t c410).t c413).t cb415)) cw418 (by omega)
        exact q_n (kw_sub (Sub.cons (t := 8) rfl (.cons (t := 10) rfl (.cons (t := 11) rfl (.cons (t := 14) rfl (.cons (t := 17) rfl (.cons (t := 18) rfl (.cons (t := 19) rfl (.cons (t := 20) rfl (.nil))))))))) (kc334 _ _ ⟨b415, s413, w410.heap.size, w413.heap.size, rfl, q423, gw418, f422, by omega, by omega, by omega⟩))
       ·
        refine sx_alloc [.bool false, (.slice none 0 0), .int .i64 0] rfl Try.zeroValue30 rfl (fun b424 w425 eb424 sb424 fb424 cb424 => ?_)
        have zw425 := cb424.size
        have s426 : Chg 0 0 w328 w425 := (((d404.t c406).t c410).t cb424)
        refine wl_nil ?_
        refine dx_next s426 ?_
        refine dx_eff 6 rfl (by kernel_rfl) ?_
        have f427 := os1_406.ext c410
        have f428 := f427.ext cb424
        have f429 := os1_410.ext cb424
        refine sx_call rfl rfl Try.call30 (c_iDecDiv f428.sv f429.sv (by omega)) (fun v430 w430 p430 => ?_)
        obtain ⟨s430, rfl, os_430, hl430, c430⟩ := p430
        have zw430 := c430.size
        have s431 : Chg 0 0 w328 w430 := ((((d404.t c406).t c410).t cb424).t c430)
        refine wl_nil ?_
        refine dx_next s431 ?_
        refine dx_take 7 rfl rfl rfl rfl (by kernel_rfl) (by kernel_rfl) (by kernel_rfl) s431 (fun _ hS => px_move rfl) ?_
        refine dx_take 8 rfl rfl rfl rfl (by kernel_rfl) (by kernel_rfl) (by kernel_rfl) s431 (fun _ hS => px_extract (vs := [.agg #[.bool ((dDiv n1 z1 p1 n2 z2 p2 q m).1), s430, .int .i64 ((dDiv n1 z1 p1 n2 z2 p2 q m).2.2.1)], .bool ((dDiv n1 z1 p1 n2 z2 p2 q m).2.2.2)]) rfl rfl) ?_
        refine dx_take 9 rfl rfl rfl rfl (by kernel_rfl) (by kernel_rfl) (by kernel_rfl) s431 (fun _ hS => px_extract (vs := [.agg #[.bool ((dDiv n1 z1 p1 n2 z2 p2 q m).1), s430, .int .i64 ((dDiv n1 z1 p1 n2 z2 p2 q m).2.2.1)], .bool ((dDiv n1 z1 p1 n2 z2 p2 q m).2.2.2)]) rfl rfl) ?_
        refine dx_eff 11 rfl (by kernel_rfl) ?_
        have f433 := fb424.ext c430
        refine sx_store (vs := [.bool ((dDiv n1 z1 p1 n2 z2 p2 q m).1), s430, .int .i64 ((dDiv n1 z1 p1 n2 z2 p2 q m).2.2.1)]) rfl rfl f433 rfl Try.sizeOf30 (Nat.le_of_ble_eq_true rfl) (one_cons rfl (one_cons os_430.one (one_cons rfl one_nil))) (fun w432 sw432 fw432 cw432 => ?_)
        have zw432 := cw432.size
        have gw432 : Blk w432 b424 [.bool ((dDiv n1 z1 p1 n2 z2 p2 q m).1), s430, .int .i64 ((dDiv n1 z1 p1 n2 z2 p2 q m).2.2.1)] 30 := fw432
        have q435 := Chg.step (l := 0) (h := 0) (Chg.zero (l := 0) (h := 0) ((((d404.t c406).t c410).t cb424).t c430)) cw432 (by omega)
        have s434 : Chg 0 0 w328 w432 := q435
        refine wl_nil ?_
        refine dx_next s434 ?_
        refine dx_take 12 rfl rfl rfl rfl (by kernel_rfl) (by kernel_rfl) (by kernel_rfl) s434 (fun _ hS => px_assign rfl) ?_
        refine dx_done (by kernel_rfl) ?_
        have f436 := os_430.chg cw432 (by omega)
        have q437 := Chg.step (l := 0) (h := 0) (Chg.zero (l := 0) (h := 0) ((((d404.t c406).t c410).t cb424).t c430)) cw432 (by omega)
        exact q_n (kw_sub (Sub.cons (t := 8) rfl (.cons (t := 10) rfl (.cons (t := 11) rfl (.cons (t := 14) rfl (.cons (t := 17) rfl (.cons (t := 18) rfl (.cons (t := 19) rfl (.cons (t := 20) rfl (.nil))))))))) (kc334 _ _ ⟨b424, s430, w425.heap.size, w430.heap.size, rfl, q437, gw432, f436, by omega, by omega, by omega⟩))
      ·
       refine sx_alloc [.bool false, (.slice none 0 0), .int .i64 0] rfl Try.zeroValue30 rfl (fun b438 w439 eb438 sb438 fb438 cb438 => ?_)
       have zw439 := cb438.size
       have s440 : Chg 0 0 w328 w439 := ((d404.t c406).t cb438)
       refine wl_nil ?_
       refine dx_next s440 ?_
       refine dx_eff 3 rfl (by kernel_rfl) ?_
       have f441 := f378.ext d404
       have f442 := f441.ext c406
       have f443 := f442.ext cb438
       refine sx_call rfl rfl Try.call10 (c_toDec f443 (by omega)) (fun v444 w444 p444 => ?_)
       obtain ⟨s1444, rfl, os1_444, c444⟩ := p444
       have zw444 := c444.size
       have s445 : Chg 0 0 w328 w444 := (((d404.t c406).t cb438).t c444)
       refine wl_nil ?_
       refine dx_next s445 ?_
       refine dx_eff 6 rfl (by kernel_rfl) ?_
       have f446 := os1_406.ext cb438
       have f447 := f446.ext c444
       refine sx_call rfl rfl Try.call30 (c_iDecDiv f447.sv os1_444.sv (by omega)) (fun v448 w448 p448 => ?_)
       obtain ⟨s448, rfl, os_448, hl448, c448⟩ := p448
       have zw448 := c448.size
       have s449 : Chg 0 0 w328 w448 := ((((d404.t c406).t cb438).t c444).t c448)
       refine wl_nil ?_
       refine dx_next s449 ?_
       refine dx_take 7 rfl rfl rfl rfl (by kernel_rfl) (by kernel_rfl) (by kernel_rfl) s449 (fun _ hS => px_move rfl) ?_
       refine dx_take 8 rfl rfl rfl rfl (by kernel_rfl) (by kernel_rfl) (by kernel_rfl) s449 (fun _ hS => px_extract (vs := [.agg #[.bool ((dDiv n1 z1 p1 n2 z2 p2 q m).1), s448, .int .i64 ((dDiv n1 z1 p1 n2 z2 p2 q m).2.2.1)], .bool ((dDiv n1 z1 p1 n2 z2 p2 q m).2.2.2)]) rfl rfl) ?_
       refine dx_take 9 rfl rfl rfl rfl (by kernel_rfl) (by kernel_rfl) (by kernel_rfl) s449 (fun _ hS => px_extract (vs := [.agg #[.bool ((dDiv n1 z1 p1 n2 z2 p2 q m).1), s448, .int .i64 ((dDiv n1 z1 p1 n2 z2 p2 q m).2.2.1)], .bool ((dDiv n1 z1 p1 n2 z2 p2 q m).2.2.2)]) rfl rfl) ?_
       refine dx_eff 11 rfl (by kernel_rfl) ?_
       have f451 := fb438.ext c444
       have f452 := f451.ext c448
       refine sx_store (vs := [.bool ((dDiv n1 z1 p1 n2 z2 p2 q m).1), s448, .int .i64 ((dDiv n1 z1 p1 n2 z2 p2 q m).2.2.1)]) rfl rfl f452 rfl Try.sizeOf30 (Nat.le_of_ble_eq_true rfl) (one_cons rfl (one_cons os_448.one (one_cons rfl one_nil))) (fun w450 sw450 fw450 cw450 => ?_)
       have zw450 := cw450.size
       have gw450 : Blk w450 b438 [.bool ((dDiv n1 z1 p1 n2 z2 p2 q m).1), s448, .int .i64 ((dDiv n1 z1 p1 n2 z2 p2 q m).2.2.1)] 30 := fw450
       have q454 := Chg.step (l := 0) (h := 0) (Chg.zero (l := 0) (h := 0) ((((d404.t c406).t cb438).t c444).t c448)) cw450 (by omega)
       have s453 : Chg 0 0 w328 w450 := q454
       refine wl_nil ?_
       refine dx_next s453 ?_
       refine dx_take 12 rfl rfl rfl rfl (by kernel_rfl) (by kernel_rfl) (by kernel_rfl) s453 (fun _ hS => px_assign rfl) ?_
       refine dx_done (by kernel_rfl) ?_
       have f455 := os_448.chg cw450 (by omega)
       have q456 := Chg.step (l := 0) (h := 0) (Chg.zero (l := 0) (h := 0) ((((d404.t c406).t cb438).t c444).t c448)) cw450 (by omega)
       exact q_n (kw_sub (Sub.cons (t := 8) rfl (.cons (t := 10) rfl (.cons (t := 11) rfl (.cons (t := 14) rfl (.cons (t := 17) rfl (.cons (t := 18) rfl (.cons (t := 19) rfl (.cons (t := 20) rfl (.nil))))))))) (kc334 _ _ ⟨b438, s448, w444.heap.size, w448.heap.size, rfl, q456, gw450, f455, by omega, by omega, by omega⟩))
     ·
      refine sx_alloc [.bool false, (.slice none 0 0), .int .i64 0] rfl Try.zeroValue30 rfl (fun b457 w458 eb457 sb457 fb457 cb457 => ?_)
      have zw458 := cb457.size
      have s459 : Chg 0 0 w328 w458 := (d404.t cb457)
      refine wl_nil ?_
      refine dx_next s459 ?_
      refine dx_eff 1 rfl (by kernel_rfl) ?_
      have f460 := f371.ext d404
      have f461 := f460.ext cb457
      refine sx_call rfl rfl Try.call10 (c_toDec f461 (by omega)) (fun v462 w462 p462 => ?_)
      obtain ⟨s1462, rfl, os1_462, c462⟩ := p462
      have zw462 := c462.size
      have s463 : Chg 0 0 w328 w462 := ((d404.t cb457).t c462)
      refine wl_nil ?_
      refine dx_next s463 ?_
      refine dx_eff 3 rfl (by kernel_rfl) ?_
      have f464 := f378.ext d404
      have f465 := f464.ext cb457
      have f466 := f465.ext c462
      refine sx_call rfl rfl Try.call10 (c_toDec f466 (by omega)) (fun v467 w467 p467 => ?_)
      obtain ⟨s1467, rfl, os1_467, c467⟩ := p467
      have zw467 := c467.size
      have s468 : Chg 0 0 w328 w467 := (((d404.t cb457).t c462).t c467)
      refine wl_nil ?_
      refine dx_next s468 ?_
      refine dx_eff 6 rfl (by kernel_rfl) ?_
      have f469 := os1_462.ext c467
      refine sx_call rfl rfl Try.call30 (c_iDecDiv f469.sv os1_467.sv (by omega)) (fun v470 w470 p470 => ?_)
      obtain ⟨s470, rfl, os_470, hl470, c470⟩ := p470
      have zw470 := c470.size
      have s471 : Chg 0 0 w328 w470 := ((((d404.t cb457).t c462).t c467).t c470)
      refine wl_nil ?_
      refine dx_next s471 ?_
      refine dx_take 7 rfl rfl rfl rfl (by kernel_rfl) (by kernel_rfl) (by kernel_rfl) s471 (fun _ hS => px_move rfl) ?_
      refine dx_take 8 rfl rfl rfl rfl (by kernel_rfl) (by kernel_rfl) (by kernel_rfl) s471 (fun _ hS => px_extract (vs := [.agg #[.bool ((dDiv n1 z1 p1 n2 z2 p2 q m).1), s470, .int .i64 ((dDiv n1 z1 p1 n2 z2 p2 q m).2.2.1)], .bool ((dDiv n1 z1 p1 n2 z2 p2 q m).2.2.2)]) rfl rfl) ?_
      refine dx_take 9 rfl rfl rfl rfl (by kernel_rfl) (by kernel_rfl) (by kernel_rfl) s471 (fun _ hS => px_extract (vs := [.agg #[.bool ((dDiv n1 z1 p1 n2 z2 p2 q m).1), s470, .int .i64 ((dDiv n1 z1 p1 n2 z2 p2 q m).2.2.1)], .bool ((dDiv n1 z1 p1 n2 z2 p2 q m).2.2.2)]) rfl rfl) ?_
      refine dx_eff 11 rfl (by kernel_rfl) ?_
      have f473 := fb457.ext c462
      have f474 := f473.ext c467
      have f475 := f474.ext c470
      refine sx_store (vs := [.bool ((dDiv n1 z1 p1 n2 z2 p2 q m).1), s470, .int .i64 ((dDiv n1 z1 p1 n2 z2 p2 q m).2.2.1)]) rfl rfl f475 rfl Try.sizeOf30 (Nat.le_of_ble_eq_true rfl) (one_cons rfl (one_cons os_470.one (one_cons rfl one_nil))) (fun w472 sw472 fw472 cw472 => ?_)
      have zw472 := cw472.size
      have gw472 : Blk w472 b457 [.bool ((dDiv n1 z1 p1 n2 z2 p2 q m).1), s470, .int .i64 ((dDiv n1 z1 p1 n2 z2 p2 q m).2.2.1)] 30 := fw472
      have q477 := Chg.step (l := 0) (h := 0) (Chg.zero (l := 0) (h := 0) ((((d404.t cb457).t c462).t c467).t c470)) cw472 (by omega)
      have s476 : Chg 0 0 w328 w472 := q477
      refine wl_nil ?_
      refine dx_next s476 ?_
      refine dx_take 12 rfl rfl rfl rfl (by kernel_rfl) (by kernel_rfl) (by kernel_rfl) s476 (fun _ hS => px_assign rfl) ?_
      refine dx_done (by kernel_rfl) ?_
      have f478 := os_470.chg cw472 (by omega)
      have q479 := Chg.step (l := 0) (h := 0) (Chg.zero (l := 0) (h := 0) ((((d404.t cb457).t c462).t c467).t c470)) cw472 (by omega)
      exact q_n (kw_sub (Sub.cons (t := 8) rfl (.cons (t := 10) rfl (.cons (t := 11) rfl (.cons (t := 14) rfl (.cons (t := 17) rfl (.cons (t := 18) rfl (.cons (t := 19) rfl (.cons (t := 20) rfl (.nil))))))))) (kc334 _ _ ⟨b457, s470, w467.heap.size, w470.heap.size, rfl, q479, gw472, f478, by omega, by omega, by omega⟩))
    ·
     rintro fr w'334 ⟨gb334x0, gs334x1, gl334x1, gu334x1, rfl, cw'334, xgb334x0, xgs334x1, ygb334x0, ygl334x1, dgl334x1xgb334x0⟩
     have zw'334 := cw'334.size
     refine sx_seq fun K480 k480 => ?_
     refine sx_seq fun K481 k481 => sx_region ?_
     refine sx_pure rfl rfl rfl (px_load rfl (xgb334x0.loadA (vs := [.bool ((dDiv n1 z1 p1 n2 z2 p2 q m).1), gs334x1, .int .i64 ((dDiv n1 z1 p1 n2 z2 p2 q m).2.2.1)]) (look_lit rfl) Try.isAgg30 Try.sizeOf30)) ?_
     have f482 := f308.ext c319
     have f483 := f482.chg c324 (by omega)
     have f484 := f483.ext c328
     have f485 := f484.ext cw'334
     refine sx_pure rfl rfl rfl (px_load rfl (f485.loadA (vs := [.bool ((dDiv n1 z1 p1 n2 z2 p2 q m).1), gs25x1, .int .i64 ((dDiv n1 z1 p1 n2 z2 p2 q m).2.2.1)]) (look_lit rfl) Try.isAgg30 Try.sizeOf30)) ?_
     have f486 := f318.ext c319
     have f487 := f486.chg c324 (by omega)
     have f488 := f487.ext c328
     have f489 := f488.ext cw'334
     refine sx_call rfl rfl Try.call12 (c_eqDec xgs334x1.sv f489.sv (by omega)) (fun v490 w490 p490 => ?_)
     obtain ⟨rfl, c490⟩ := p490
     have zw490 := c490.size
     refine sx_pure rfl rfl rfl (px_notP rfl) ?_
     refine sm rfl rfl rfl rfl ?_
     have h4731 : ¬ (¬ (((dDiv n1 z1 p1 n2 z2 p2 q m).1) = ((dDiv n1 z1 p1 n2 z2 p2 q m).1) ∧ ((dDiv n1 z1 p1 n2 z2 p2 q m).2.1) = ((dDiv n1 z1 p1 n2 z2 p2 q m).2.1) ∧ ((dDiv n1 z1 p1 n2 z2 p2 q m).2.2.1) = ((dDiv n1 z1 p1 n2 z2 p2 q m).2.2.1))) := by simp [mk_length]
     refine sx_tmpPF (t := 116) rfl h4731 ?_
     refine sx_guardT rfl rfl rfl ?_
     refine sm rfl rfl rfl rfl ?_
     refine sx_guardT rfl rfl rfl ?_
     refine sm rfl rfl rfl rfl ?_
     refine sx_guardT rfl rfl rfl ?_
     refine sx_pure rfl rfl rfl (px_neB Try.underlying4 rfl rfl) ?_
     refine sx_pure rfl rfl rfl (px_pick rfl rfl) ?_
     refine wl_nil (q_n (k481 _ _ ?_))
     refine sx_sub (Sub.cons (t := 8) rfl (.cons (t := 14) rfl (.cons (t := 17) rfl (.cons (t := 18) rfl (.cons (t := 120) rfl (.nil)))))) ?_
     have h4731x1 : (((dDiv n1 z1 p1 n2 z2 p2 q m).2.2.2) != ((dDiv n1 z1 p1 n2 z2 p2 q m).2.2.2)) = false := by simp [mk_length]
     refine sx_condBF rfl h4731x1 ?_
     refine sx_skip ?_
     refine q_n (k480 _ _ ?_)
     refine sx_seq fun K491 k491 => sx_region ?_
     refine sa rfl rfl rfl rfl ?_
     refine wl_nil (q_n (k491 _ _ ?_))
     refine sx_seq fun K492 k492 => sx_region ?_
     have f493 := f327.ext c328
     have f494 := f493.ext cw'334
     have f495 := f494.ext c490
     refine sx_pure rfl rfl rfl (px_load rfl (f495.loadA (vs := [.bool ((dDiv n1 z1 p1 n2 z2 p2 q m).1), s145, .int .i64 ((dDiv n1 z1 p1 n2 z2 p2 q m).2.2.1)]) (look_lit rfl) Try.isAgg30 Try.sizeOf30)) ?_
     refine sm rfl rfl rfl rfl ?_
     have f496 := ov1_324.ext c328
     have f497 := f496.ext cw'334
     have f498 := f497.ext c490
     refine sx_call rfl rfl Try.call14 (c_heldDec f498.sv (by first | omega | (simp only [mk_length]; omega)) (by omega) (by first | assumption | simp [mk_length])) (fun v499 w499 p499 => ?_)
     obtain ⟨rfl, c499⟩ := p499
     have zw499 := c499.size
     refine sa rfl rfl rfl rfl ?_
     refine wl_nil (q_n (k492 _ _ ?_))
     refine sx_seq fun K500 k500 => ?_
     refine sx_seq fun K501 k501 => sx_region ?_
     refine sm rfl rfl rfl rfl ?_
     refine sx_pure rfl rfl rfl (px_lt rfl rfl) ?_
     refine wl_nil (q_n (k501 _ _ ?_))
     have h4736 : ¬ (((1 : Int) + ↑((mk (1 : Int) (((dDiv n1 z1 p1 n2 z2 p2 q m).2.1)).length)).length : Int) < 0) := by omega
     refine sx_condPF rfl h4736 ?_
     refine sx_skip ?_
     refine q_n (k500 _ _ ?_)
     refine sx_seq fun K502 k502 => ?_
     refine sx_seq fun K503 k503 => sx_region ?_
     refine sm rfl rfl rfl rfl ?_
     refine sm rfl rfl rfl rfl ?_
     refine sx_pure rfl rfl rfl (px_ne rfl rfl) ?_
     refine wl_nil (q_n (k503 _ _ ?_))
     have h4739 : ¬ (((1 : Int) + ↑((mk (1 : Int) (((dDiv n1 z1 p1 n2 z2 p2 q m).2.1)).length)).length : Int) ≠ (1 : Int) + ↑(((dDiv n1 z1 p1 n2 z2 p2 q m).2.1)).length) := by simp [mk_length]
     refine sx_condPF rfl h4739 ?_
     refine sx_skip ?_
     refine q_n (k502 _ _ ?_)
     refine sx_seq fun K504 k504 => sx_region ?_
     refine sa rfl rfl rfl rfl ?_
     refine wl_nil (q_n (k504 _ _ ?_))
     refine sx_retc ?_
     refine sx_ret1 Try.results7 rfl ?_
     have q505 := Chg.step (l := 0) (h := 0) (Chg.zero (l := 0) (h := 0) ((((((cb2.t cb4).t c11).t c20).t cw'25).t c115).t cb116)) cw118 (by omega)
     have q506 := Chg.step (l := 0) (h := 0) q505 (c131.t cb132) (by omega)
     have q507 := Chg.step (l := 0) (h := 0) q506 cw134 (by omega)
     have q508 := Chg.step (l := 0) (h := 0) q507 (c145.t cb146) (by omega)
     have q509 := Chg.step (l := 0) (h := 0) q508 cw148 (by omega)
     have q510 := Chg.step (l := 0) (h := 0) q509 ((((((c171.t d228).t c230).t c234).t d272).t c274).t c278) (by omega)
     have q511 := Chg.step (l := 0) (h := 0) q510 c288 (by omega)
     have q512 := Chg.step (l := 0) (h := 0) q511 c296 (by omega)
     have q513 := Chg.step (l := 0) (h := 0) q512 c319 (by omega)
     have q514 := Chg.step (l := 0) (h := 0) q513 c324 (by omega)
     have q515 := Chg.step (l := 0) (h := 0) q514 (((c328.t cw'334).t c490).t c499) (by omega)
     exact ⟨rfl, q515⟩

end Go.Proofs.Ytfoceofnldnbgaa
