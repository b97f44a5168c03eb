/- Contracts of functions of the program: what each call returns, and that it changes nothing that was. Conditions: as each says. -/
import Derived.Test.YteiifmkclokgnaaTy
import Derived.Test.YteiifmkclokgnaaNatH
import Derived.Test.YteiifmkclokgnaaSxB
import Derived.Test.YteiifmkclokgnaaRm
import Derived.Test.YteiifmkclokgnaaK0
import Derived.Test.YteiifmkclokgnaaK1
import Derived.Test.YteiifmkclokgnaaK3
set_option linter.unusedVariables false
set_option linter.unusedSimpArgs false
namespace Go.Proofs.Yteiifmkclokgnaa
open Go Go.RowKit
set_option maxRecDepth 100000
theorem c_sDecRat {w : World} {n1 : Bool} {v1 : Value} {lv1 uv1 : Nat} {z1 : List Int} {p1 : Int} (hv1 : Sl w lv1 uv1 v1 (z1)) (h63 : z1.length ≤ 4611686018427387904) :
  Ret Try.prog 51 [.agg #[.bool n1, v1, .int .i64 p1]] w fun v w' => ∃ s t ls us lt ut, v = .agg #[.bool ((dRat n1 z1 p1).1), s, t] ∧ OwnI w' (ls) (us) s intT ((dRat n1 z1 p1).2.1) ∧ OwnI w' (lt) (ut) t intT ((dRat n1 z1 p1).2.2.1) ∧ (w.heap.size ≤ ls ∧ us ≤ w'.heap.size ∧ w.heap.size ≤ lt ∧ ut ≤ w'.heap.size ∧ (us ≤ lt ∨ ut ≤ ls)) ∧ ((dRat n1 z1 p1).2.1.length ≤ 18 ∧ (dRat n1 z1 p1).2.2.1.length ≤ 18) ∧ Chg 0 0 w w' := by
 have hv10 := hv1.fit
 refine sx_enter Try.func51 rfl Try.ntmps51 (Nat.le_of_ble_eq_true rfl) ?_
 refine sx_seq fun K1 k1 => sx_region ?_
 refine sx_box [.bool n1, v1, .int .i64 p1] rfl rfl rfl (fun b2 w3 eb2 sb2 fb2 cb2 => ?_)
 have zw3 := cb2.size
 refine sx_alloc [.bool false, (.slice none 0 0), (.slice none 0 0)] rfl Try.zeroValue53 rfl (fun b4 w5 eb4 sb4 fb4 cb4 => ?_)
 have zw5 := cb4.size
 refine wl_nil (q_n (k1 _ _ ?_))
 refine sx_seq fun K6 k6 => ?_
 refine sx_seq fun K7 k7 => sx_region ?_
 have f8 := fb2.ext cb4
 refine sx_pure rfl rfl rfl (px_load rfl (f8.loadA (vs := [.bool n1, v1, .int .i64 p1]) (look_lit rfl) Try.isAgg31 Try.sizeOf31)) ?_
 have f9 := hv10.ext cb2
 have f10 := f9.ext cb4
 refine sx_call rfl rfl Try.call16 (c_sDecOk f10 (by omega)) (fun v11 w11 p11 => ?_)
 obtain ⟨rfl, c11⟩ := p11
 have zw11 := c11.size
 refine sx_pure rfl rfl rfl (px_notP rfl) ?_
 refine wl_nil (q_n (k7 _ _ ?_))
 refine sx_condP rfl (fun h23 => ?_) (fun h23 => ?_)
 ·
  refine sx_seq fun K12 k12 => sx_region ?_
  refine sx_pure rfl rfl rfl (px_build rfl (xbld53x  _)) ?_
  have f14 := fb4.ext c11
  refine sx_store (vs := [.bool false, (.slice none 0 0), (.slice none 0 0)]) rfl rfl f14 rfl Try.sizeOf53 (Nat.le_of_ble_eq_true rfl) (one_cons rfl (one_cons rfl (one_cons rfl one_nil))) (fun w13 sw13 fw13 cw13 => ?_)
  have zw13 := cw13.size
  have gw13 : Blk w13 b4 [.bool false, (.slice none 0 0), (.slice none 0 0)] 53 := fw13
  refine wl_nil (q_n (k12 _ _ ?_))
  refine sx_retc ?_
  refine q_r (sx_ret1 Try.results51 ⟨_, rfl, gw13.loadA (vs := [.bool false, (.slice none 0 0), (.slice none 0 0)]) (look_lit rfl) Try.isAgg53 Try.sizeOf53⟩ ?_)
  rw [dRat_no h23]
  have q15 := Chg.step (l := 0) (h := 0) (Chg.zero (l := 0) (h := 0) ((cb2.t cb4).t c11)) cw13 (by omega)
  exact ⟨_, _, w.heap.size, w.heap.size, w.heap.size, w.heap.size, rfl, Own.nil _ _ _ _ _, Own.nil _ _ _ _ _, by omega, ⟨by simp [noR], by simp [noR]⟩, q15⟩
 ·
  have hD := Decidable.not_not.1 h23
  obtain ⟨x1, rfl, rfl, hx1⟩ := hD.int
  have ltn := ten_len' (k := p1) (by omega)
  refine sx_skip ?_
  refine q_n (k6 _ _ ?_)
  refine sx_seq fun K16 k16 => ?_
  refine sx_cut k16 (fun fr w' => ∃ (gb17x0 : Nat) (gs17x1 : Value) (gl17x1 : Nat) (gu17x1 : Nat) (gs17x2 : Value) (gl17x2 : Nat) (gu17x2 : Nat), fr = [(2, .pointer (some ⟨b4, 0, none⟩)), (3, .pointer (some ⟨gb17x0, 0, none⟩))] ∧ Chg 0 0 w11 w' ∧ (Blk w' gb17x0 [.bool ((rMake (ng x1) (dg x1.natAbs) (ng (tenI p1)) (dg (tenI p1).natAbs)).1), gs17x1, gs17x2] 53) ∧ (Own w' gl17x1 gu17x1 gs17x1 intT (((rMake (ng x1) (dg x1.natAbs) (ng (tenI p1)) (dg (tenI p1).natAbs)).2.1).length) 1 (((rMake (ng x1) (dg x1.natAbs) (ng (tenI p1)) (dg (tenI p1).natAbs)).2.1).map (Value.int .i64))) ∧ (Own w' gl17x2 gu17x2 gs17x2 intT (((rMake (ng x1) (dg x1.natAbs) (ng (tenI p1)) (dg (tenI p1).natAbs)).2.2.1).length) 1 (((rMake (ng x1) (dg x1.natAbs) (ng (tenI p1)) (dg (tenI p1).natAbs)).2.2.1).map (Value.int .i64))) ∧ (w11.heap.size ≤ gb17x0 ∧ gb17x0 + 1 ≤ w'.heap.size) ∧ (w11.heap.size ≤ gl17x1 ∧ gu17x1 ≤ w'.heap.size) ∧ (w11.heap.size ≤ gl17x2 ∧ gu17x2 ≤ w'.heap.size) ∧ (gu17x1 ≤ gb17x0 ∨ gb17x0 + 1 ≤ gl17x1) ∧ (gu17x2 ≤ gb17x0 ∨ gb17x0 + 1 ≤ gl17x2) ∧ (gu17x2 ≤ gl17x1 ∨ gu17x1 ≤ gl17x2)) (fun kc17 => ?_) ?_
  ·
   have f18 := f8.ext c11
   have f19 := fb4.ext c11
   have f20 := f10.ext c11
   refine dx_region (fun w' => Chg 0 0 w11 w') (by kernel_rfl) (Chg.zero (Chg.drew _)) ?_
   have d21 := Chg.drew w11
   have s21 : Chg 0 0 w11 (World.drew w11) := Chg.zero (Chg.drew _)
   have y21 : (World.drew w11).heap.size = w11.heap.size := rfl
   generalize World.drew w11 = w21 at *
   have zw21 := d21.size
   refine dx_take 0 rfl rfl rfl rfl (by kernel_rfl) (by kernel_rfl) (by kernel_rfl) s21 (fun _ hS => px_field rfl xfld31x0) ?_
   refine dx_take 1 rfl rfl rfl rfl (by kernel_rfl) (by kernel_rfl) (by kernel_rfl) s21 (fun _ hS => px_load rfl ((f18.chg hS (by omega)).loadA (vs := [.bool (ng x1), v1]) (look_lit rfl) Try.isAgg29 Try.sizeOf29)) ?_
   refine dx_take 2 rfl rfl rfl rfl (by kernel_rfl) (by kernel_rfl) (by kernel_rfl) s21 (fun _ hS => px_field rfl xfld31x1) ?_
   refine dx_take 3 rfl rfl rfl rfl (by kernel_rfl) (by kernel_rfl) (by kernel_rfl) s21 (fun _ hS => px_load rfl ((f18.chg hS (by omega)).load1 rfl Try.isAgg3)) ?_
   refine dx_eff2 4 9 rfl rfl (by kernel_rfl) ?_ ?_
   ·
    refine sx_call rfl rfl Try.call96 (c_l07Ten (by omega)) (fun v22 w22 p22 => ?_)
    obtain ⟨s22, rfl, os_22, c22⟩ := p22
    have zw22 := c22.size
    have s23 : Chg 0 0 w11 w22 := (d21.t c22)
    refine wl_nil ?_
    refine dx_next s23 ?_
    refine dx_eff2 5 9 rfl rfl (by kernel_rfl) ?_ ?_
    ·
     have f24 := f20.ext d21
     have f25 := f24.ext c22
     refine sx_call rfl rfl Try.call95 (c_sRatMake f25 os_22.sv (by have h9 := len_ten (k := p1) (by omega); omega)) (fun v26 w26 p26 => ?_)
     obtain ⟨s26, t26, ls26, us26, lt26, ut26, rfl, os_26, ot_26, hd26, hl26, c26⟩ := p26
     have zw26 := c26.size
     have s27 : Chg 0 0 w11 w26 := ((d21.t c22).t c26)
     refine wl_nil ?_
     refine dx_next s27 ?_
     refine dx_take 6 rfl rfl rfl rfl (by kernel_rfl) (by kernel_rfl) (by kernel_rfl) s27 (fun _ hS => px_move rfl) ?_
     refine dx_take 7 rfl rfl rfl rfl (by kernel_rfl) (by kernel_rfl) (by kernel_rfl) s27 (fun _ hS => px_extract (vs := [.agg #[.bool ((rMake (ng x1) (dg x1.natAbs) (ng (tenI p1)) (dg (tenI p1).natAbs)).1), s26, t26], .bool ((rMake (ng x1) (dg x1.natAbs) (ng (tenI p1)) (dg (tenI p1).natAbs)).2.2.2)]) rfl rfl) ?_
     refine dx_take 8 rfl rfl rfl rfl (by kernel_rfl) (by kernel_rfl) (by kernel_rfl) s27 (fun _ hS => px_extract (vs := [.agg #[.bool ((rMake (ng x1) (dg x1.natAbs) (ng (tenI p1)) (dg (tenI p1).natAbs)).1), s26, t26], .bool ((rMake (ng x1) (dg x1.natAbs) (ng (tenI p1)) (dg (tenI p1).natAbs)).2.2.2)]) rfl rfl) ?_
     refine dx_eff 9 rfl (by kernel_rfl) ?_
     refine sx_alloc [.bool false, (.slice none 0 0), (.slice none 0 0)] rfl Try.zeroValue53 rfl (fun b28 w29 eb28 sb28 fb28 cb28 => ?_)
     have zw29 := cb28.size
     have s30 : Chg 0 0 w11 w29 := (((d21.t c22).t c26).t cb28)
     refine wl_nil ?_
     refine dx_next s30 ?_
     refine dx_eff 10 rfl (by kernel_rfl) ?_
     have f32 := ot_26.ext cb28
     have f33 := os_26.ext cb28
     refine sx_store (vs := [.bool ((rMake (ng x1) (dg x1.natAbs) (ng (tenI p1)) (dg (tenI p1).natAbs)).1), s26, t26]) rfl rfl fb28 rfl Try.sizeOf53 (Nat.le_of_ble_eq_true rfl) (one_cons rfl (one_cons f33.one (one_cons f32.one one_nil))) (fun w31 sw31 fw31 cw31 => ?_)
     have zw31 := cw31.size
     have gw31 : Blk w31 b28 [.bool ((rMake (ng x1) (dg x1.natAbs) (ng (tenI p1)) (dg (tenI p1).natAbs)).1), s26, t26] 53 := fw31
     have q35 := Chg.step (l := 0) (h := 0) (Chg.zero (l := 0) (h := 0) (((d21.t c22).t c26).t cb28)) cw31 (by omega)
     have s34 : Chg 0 0 w11 w31 := q35
     refine wl_nil ?_
     refine dx_next s34 ?_
     refine dx_take 11 rfl rfl rfl rfl (by kernel_rfl) (by kernel_rfl) (by kernel_rfl) s34 (fun _ hS => px_assign rfl) ?_
     refine dx_done (by kernel_rfl) ?_
     have f36 := f33.chg cw31 (by omega)
     have f37 := f32.chg cw31 (by omega)
     have q38 := Chg.step (l := 0) (h := 0) (Chg.zero (l := 0) (h := 0) (((d21.t c22).t c26).t cb28)) cw31 (by omega)
     exact q_n (kw_sub (Sub.cons (t := 2) rfl (.cons (t := 3) rfl (.nil))) (kc17 _ _ ⟨b28, s26, ls26, us26, t26, lt26, ut26, rfl, q38, gw31, f36, f37, by omega, by omega, by omega, by omega, by omega, by omega⟩))
    ·
     refine sx_alloc [.bool false, (.slice none 0 0), (.slice none 0 0)] rfl Try.zeroValue53 rfl (fun b39 w40 eb39 sb39 fb39 cb39 => ?_)
     have zw40 := cb39.size
     have s41 : Chg 0 0 w11 w40 := ((d21.t c22).t cb39)
     refine wl_nil ?_
     refine dx_next s41 ?_
     refine dx_eff 5 rfl (by kernel_rfl) ?_
     have f42 := f20.ext d21
     have f43 := f42.ext c22
     have f44 := f43.ext cb39
     have f45 := os_22.ext cb39
     refine sx_call rfl rfl Try.call95 (c_sRatMake f44 f45.sv (by have h9 := len_ten (k := p1) (by omega); omega)) (fun v46 w46 p46 => ?_)
     obtain ⟨s46, t46, ls46, us46, lt46, ut46, rfl, os_46, ot_46, hd46, hl46, c46⟩ := p46
     have zw46 := c46.size
     have s47 : Chg 0 0 w11 w46 := (((d21.t c22).t cb39).t c46)
     refine wl_nil ?_
     refine dx_next s47 ?_
     refine dx_take 6 rfl rfl rfl rfl (by kernel_rfl) (by kernel_rfl) (by kernel_rfl) s47 (fun _ hS => px_move rfl) ?_
     refine dx_take 7 rfl rfl rfl rfl (by kernel_rfl) (by kernel_rfl) (by kernel_rfl) s47 (fun _ hS => px_extract (vs := [.agg #[.bool ((rMake (ng x1) (dg x1.natAbs) (ng (tenI p1)) (dg (tenI p1).natAbs)).1), s46, t46], .bool ((rMake (ng x1) (dg x1.natAbs) (ng (tenI p1)) (dg (tenI p1).natAbs)).2.2.2)]) rfl rfl) ?_
     refine dx_take 8 rfl rfl rfl rfl (by kernel_rfl) (by kernel_rfl) (by kernel_rfl) s47 (fun _ hS => px_extract (vs := [.agg #[.bool ((rMake (ng x1) (dg x1.natAbs) (ng (tenI p1)) (dg (tenI p1).natAbs)).1), s46, t46], .bool ((rMake (ng x1) (dg x1.natAbs) (ng (tenI p1)) (dg (tenI p1).natAbs)).2.2.2)]) rfl rfl) ?_
     refine dx_eff 10 rfl (by kernel_rfl) ?_
     have f49 := fb39.ext c46
     refine sx_store (vs := [.bool ((rMake (ng x1) (dg x1.natAbs) (ng (tenI p1)) (dg (tenI p1).natAbs)).1), s46, t46]) rfl rfl f49 rfl Try.sizeOf53 (Nat.le_of_ble_eq_true rfl) (one_cons rfl (one_cons os_46.one (one_cons ot_46.one one_nil))) (fun w48 sw48 fw48 cw48 => ?_)
     have zw48 := cw48.size
     have gw48 : Blk w48 b39 [.bool ((rMake (ng x1) (dg x1.natAbs) (ng (tenI p1)) (dg (tenI p1).natAbs)).1), s46, t46] 53 := fw48
     have q51 := Chg.step (l := 0) (h := 0) (Chg.zero (l := 0) (h := 0) (((d21.t c22).t cb39).t c46)) cw48 (by omega)
     have s50 : Chg 0 0 w11 w48 := q51
     refine wl_nil ?_
     refine dx_next s50 ?_
     refine dx_take 11 rfl rfl rfl rfl (by kernel_rfl) (by kernel_rfl) (by kernel_rfl) s50 (fun _ hS => px_assign rfl) ?_
     refine dx_done (by kernel_rfl) ?_
     have f52 := os_46.chg cw48 (by omega)
     have f53 := ot_46.chg cw48 (by omega)
     have q54 := Chg.step (l := 0) (h := 0) (Chg.zero (l := 0) (h := 0) (((d21.t c22).t cb39).t c46)) cw48 (by omega)
     exact q_n (kw_sub (Sub.cons (t := 2) rfl (.cons (t := 3) rfl (.nil))) (kc17 _ _ ⟨b39, s46, ls46, us46, t46, lt46, ut46, rfl, q54, gw48, f52, f53, by omega, by omega, by omega, by omega, by omega, by omega⟩))
   ·
    refine sx_alloc [.bool false, (.slice none 0 0), (.slice none 0 0)] rfl Try.zeroValue53 rfl (fun b55 w56 eb55 sb55 fb55 cb55 => ?_)
    have zw56 := cb55.size
    have s57 : Chg 0 0 w11 w56 := (d21.t cb55)
    refine wl_nil ?_
    refine dx_next s57 ?_
    refine dx_eff 4 rfl (by kernel_rfl) ?_
    refine sx_call rfl rfl Try.call96 (c_l07Ten (by omega)) (fun v58 w58 p58 => ?_)
    obtain ⟨s58, rfl, os_58, c58⟩ := p58
    have zw58 := c58.size
    have s59 : Chg 0 0 w11 w58 := ((d21.t cb55).t c58)
    refine wl_nil ?_
    refine dx_next s59 ?_
    refine dx_eff 5 rfl (by kernel_rfl) ?_
    have f60 := f20.ext d21
    have f61 := f60.ext cb55
    have f62 := f61.ext c58
    refine sx_call rfl rfl Try.call95 (c_sRatMake f62 os_58.sv (by have h9 := len_ten (k := p1) (by omega); omega)) (fun v63 w63 p63 => ?_)
    obtain ⟨s63, t63, ls63, us63, lt63, ut63, rfl, os_63, ot_63, hd63, hl63, c63⟩ := p63
    have zw63 := c63.size
    have s64 : Chg 0 0 w11 w63 := (((d21.t cb55).t c58).t c63)
    refine wl_nil ?_
    refine dx_next s64 ?_
    refine dx_take 6 rfl rfl rfl rfl (by kernel_rfl) (by kernel_rfl) (by kernel_rfl) s64 (fun _ hS => px_move rfl) ?_
    refine dx_take 7 rfl rfl rfl rfl (by kernel_rfl) (by kernel_rfl) (by kernel_rfl) s64 (fun _ hS => px_extract (vs := [.agg #[.bool ((rMake (ng x1) (dg x1.natAbs) (ng (tenI p1)) (dg (tenI p1).natAbs)).1), s63, t63], .bool ((rMake (ng x1) (dg x1.natAbs) (ng (tenI p1)) (dg (tenI p1).natAbs)).2.2.2)]) rfl rfl) ?_
    refine dx_take 8 rfl rfl rfl rfl (by kernel_rfl) (by kernel_rfl) (by kernel_rfl) s64 (fun _ hS => px_extract (vs := [.agg #[.bool ((rMake (ng x1) (dg x1.natAbs) (ng (tenI p1)) (dg (tenI p1).natAbs)).1), s63, t63], .bool ((rMake (ng x1) (dg x1.natAbs) (ng (tenI p1)) (dg (tenI p1).natAbs)).2.2.2)]) rfl rfl) ?_
    refine dx_eff 10 rfl (by kernel_rfl) ?_
    have f66 := fb55.ext c58
    have f67 := f66.ext c63
    refine sx_store (vs := [.bool ((rMake (ng x1) (dg x1.natAbs) (ng (tenI p1)) (dg (tenI p1).natAbs)).1), s63, t63]) rfl rfl f67 rfl Try.sizeOf53 (Nat.le_of_ble_eq_true rfl) (one_cons rfl (one_cons os_63.one (one_cons ot_63.one one_nil))) (fun w65 sw65 fw65 cw65 => ?_)
    have zw65 := cw65.size
    have gw65 : Blk w65 b55 [.bool ((rMake (ng x1) (dg x1.natAbs) (ng (tenI p1)) (dg (tenI p1).natAbs)).1), s63, t63] 53 := fw65
    have q69 := Chg.step (l := 0) (h := 0) (Chg.zero (l := 0) (h := 0) (((d21.t cb55).t c58).t c63)) cw65 (by omega)
    have s68 : Chg 0 0 w11 w65 := q69
    refine wl_nil ?_
    refine dx_next s68 ?_
    refine dx_take 11 rfl rfl rfl rfl (by kernel_rfl) (by kernel_rfl) (by kernel_rfl) s68 (fun _ hS => px_assign rfl) ?_
    refine dx_done (by kernel_rfl) ?_
    have f70 := os_63.chg cw65 (by omega)
    have f71 := ot_63.chg cw65 (by omega)
    have q72 := Chg.step (l := 0) (h := 0) (Chg.zero (l := 0) (h := 0) (((d21.t cb55).t c58).t c63)) cw65 (by omega)
    exact q_n (kw_sub (Sub.cons (t := 2) rfl (.cons (t := 3) rfl (.nil))) (kc17 _ _ ⟨b55, s63, ls63, us63, t63, lt63, ut63, rfl, q72, gw65, f70, f71, by omega, by omega, by omega, by omega, by omega, by omega⟩))
  ·
   rintro fr w'17 ⟨gb17x0, gs17x1, gl17x1, gu17x1, gs17x2, gl17x2, gu17x2, rfl, cw'17, xgb17x0, xgs17x1, xgs17x2, ygb17x0, ygl17x1, ygl17x2, dgl17x1xgb17x0, dgl17x2xgb17x0, dgl17x2xgl17x1⟩
   have zw'17 := cw'17.size
   refine sx_seq fun K73 k73 => sx_region ?_
   refine sx_pure rfl rfl rfl (px_load rfl (xgb17x0.loadA (vs := [.bool ((rMake (ng x1) (dg x1.natAbs) (ng (tenI p1)) (dg (tenI p1).natAbs)).1), gs17x1, gs17x2]) (look_lit rfl) Try.isAgg53 Try.sizeOf53)) ?_
   have f75 := fb4.ext c11
   have f76 := f75.ext cw'17
   refine sx_store (vs := [.bool ((rMake (ng x1) (dg x1.natAbs) (ng (tenI p1)) (dg (tenI p1).natAbs)).1), gs17x1, gs17x2]) rfl rfl f76 rfl Try.sizeOf53 (Nat.le_of_ble_eq_true rfl) (one_cons rfl (one_cons xgs17x1.one (one_cons xgs17x2.one one_nil))) (fun w74 sw74 fw74 cw74 => ?_)
   have zw74 := cw74.size
   have gw74 : Blk w74 b4 [.bool ((rMake (ng x1) (dg x1.natAbs) (ng (tenI p1)) (dg (tenI p1).natAbs)).1), gs17x1, gs17x2] 53 := fw74
   refine wl_nil (q_n (k73 _ _ ?_))
   refine sx_retc ?_
   refine sx_ret1 Try.results51 ⟨_, rfl, gw74.loadA (vs := [.bool ((rMake (ng x1) (dg x1.natAbs) (ng (tenI p1)) (dg (tenI p1).natAbs)).1), gs17x1, gs17x2]) (look_lit rfl) Try.isAgg53 Try.sizeOf53⟩ ?_
   have hrl := dRat_len (n := ng x1) (z := dg x1.natAbs) (p := p1)
   rw [← dRat_make hD] at hrl ⊢
   have q77 := Chg.step (l := 0) (h := 0) (Chg.zero (l := 0) (h := 0) (((cb2.t cb4).t c11).t cw'17)) cw74 (by omega)
   have f78 := xgs17x1.chg cw74 (by omega)
   have f79 := xgs17x2.chg cw74 (by omega)
   exact ⟨_, _, _, _, _, _, rfl, f78, f79, by omega, hrl, q77⟩

theorem c_reduce {w : World} {n : Bool} {va : Value} {lva uva : Nat} {m : Nat} {vb : Value} {lvb uvb : Nat} {d : Nat} (hva : Sl w lva uva va (dg m)) (hvb : Sl w lvb uvb vb (dg d)) (hbm : (dg m).length ≤ 400) (hbd : (dg d).length ≤ 400) (hd0 : 0 < d) :
  Ret Try.prog 89 [.agg #[.bool n, va], vb] w fun v w' => ∃ s t ls us lt ut, v = .tuple #[.agg #[.bool ((rR (sgI n m) d).1), s, t], .bool ((rR (sgI n m) d).2.2.2)] ∧ OwnI w' (ls) (us) s intT ((rR (sgI n m) d).2.1) ∧ OwnI w' (lt) (ut) t intT ((rR (sgI n m) d).2.2.1) ∧ (w.heap.size ≤ ls ∧ us ≤ w'.heap.size ∧ w.heap.size ≤ lt ∧ ut ≤ w'.heap.size ∧ (us ≤ lt ∨ ut ≤ ls)) ∧ ((rR (sgI n m) d).2.1.length ≤ 18 ∧ (rR (sgI n m) d).2.2.1.length ≤ 18) ∧ Chg 0 0 w w' := by
 have hva0 := hva.fit
 have hvb0 := hvb.fit
 have hgp := gcd_pos_r (m := m) hd0
 have lg := gcd_le_left (m := m) (n := d) (k := max (dg m).length (dg d).length) (by omega) (by omega)
 have lq1 := len_div m (Nat.gcd m d)
 have lq2 := len_div d (Nat.gcd m d)
 refine sx_enter Try.func89 rfl Try.ntmps89 (Nat.le_of_ble_eq_true rfl) ?_
 refine sx_seq fun K1 k1 => sx_region ?_
 refine sx_box [.bool n, va] rfl rfl rfl (fun b2 w3 eb2 sb2 fb2 cb2 => ?_)
 have zw3 := cb2.size
 refine sx_alloc [.bool false, (.slice none 0 0), (.slice none 0 0)] rfl Try.zeroValue53 rfl (fun b4 w5 eb4 sb4 fb4 cb4 => ?_)
 have zw5 := cb4.size
 refine sa rfl rfl rfl rfl ?_
 refine wl_nil (q_n (k1 _ _ ?_))
 refine sx_seq fun K6 k6 => sx_region ?_
 refine sx_pure rfl rfl rfl (px_field rfl xfld29x1) ?_
 have f7 := fb2.ext cb4
 refine sx_pure rfl rfl rfl (px_load rfl (f7.load1 rfl Try.isAgg22)) ?_
 refine sm rfl rfl rfl rfl ?_
 have f8 := hva0.ext cb2
 have f9 := f8.ext cb4
 have f10 := hvb0.ext cb2
 have f11 := f10.ext cb4
 refine sx_call rfl rfl Try.call110 (c_natGcd f9 f11 (by omega) (by omega)) (fun v12 w12 p12 => ?_)
 obtain ⟨s12, rfl, os_12, c12⟩ := p12
 have zw12 := c12.size
 refine sa rfl rfl rfl rfl ?_
 refine wl_nil (q_n (k6 _ _ ?_))
 refine sx_seq fun K13 k13 => sx_region ?_
 refine sx_pure rfl rfl rfl (px_field rfl xfld29x1) ?_
 have f14 := f7.ext c12
 refine sx_pure rfl rfl rfl (px_load rfl (f14.load1 rfl Try.isAgg22)) ?_
 refine sm rfl rfl rfl rfl ?_
 have f15 := f9.ext c12
 refine sx_call rfl rfl Try.call120 (c_natDiv f15 os_12.sv (by omega) (by omega) (hgp)) (fun v16 w16 p16 => ?_)
 obtain ⟨s16, t16, rfl, os_16, ot_16, c16⟩ := p16
 have zw16 := c16.size
 refine sm rfl rfl rfl rfl ?_
 refine sx_pure rfl rfl rfl (px_extract (vs := [s16, t16]) rfl rfl) ?_
 refine sx_pure rfl rfl rfl (px_extract (vs := [s16, t16]) rfl rfl) ?_
 refine sa rfl rfl rfl rfl ?_
 refine sa rfl rfl rfl rfl ?_
 refine wl_nil (q_n (k13 _ _ ?_))
 refine sx_sub (Sub.cons (t := 1) rfl (.cons (t := 2) rfl (.cons (t := 4) rfl (.cons (t := 5) rfl (.cons (t := 6) rfl (.cons (t := 7) rfl (.nil))))))) ?_
 refine sx_seq fun K17 k17 => sx_region ?_
 refine sm rfl rfl rfl rfl ?_
 refine sm rfl rfl rfl rfl ?_
 have f18 := f11.ext c12
 have f19 := f18.ext c16
 have f20 := os_12.ext c16
 refine sx_call rfl rfl Try.call120 (c_natDiv f19 f20.sv (by omega) (by omega) (hgp)) (fun v21 w21 p21 => ?_)
 obtain ⟨s21, t21, rfl, os_21, ot_21, c21⟩ := p21
 have zw21 := c21.size
 refine sm rfl rfl rfl rfl ?_
 refine sx_pure rfl rfl rfl (px_extract (vs := [s21, t21]) rfl rfl) ?_
 refine sx_pure rfl rfl rfl (px_extract (vs := [s21, t21]) rfl rfl) ?_
 refine sa rfl rfl rfl rfl ?_
 refine sa rfl rfl rfl rfl ?_
 refine wl_nil (q_n (k17 _ _ ?_))
 refine sx_seq fun K22 k22 => ?_
 refine sx_seq fun K23 k23 => sx_region ?_
 refine sm rfl rfl rfl rfl ?_
 have f24 := os_16.ext c21
 refine sx_pure rfl rfl rfl (px_len rfl Try.underlying22 f24.sv) ?_
 refine sx_pure rfl rfl rfl (px_gt rfl rfl) ?_
 refine sm rfl rfl rfl rfl ?_
 refine sx_tmpP (t := 31) rfl (fun h26 => ?_) (fun h26 => ?_)
 ·
  refine sx_guardF rfl rfl rfl rfl rfl rfl ?_
  refine sx_guardF rfl rfl rfl rfl rfl rfl ?_
  refine sx_guardF rfl rfl rfl rfl rfl rfl ?_
  refine sx_pure rfl rfl rfl (px_pick rfl rfl) ?_
  refine wl_nil (q_n (k23 _ _ ?_))
  refine sx_sub (Sub.cons (t := 2) rfl (.cons (t := 4) rfl (.cons (t := 5) rfl (.cons (t := 7) rfl (.cons (t := 9) rfl (.cons (t := 35) rfl (.nil))))))) ?_
  refine sx_condT rfl ?_
  refine sx_seq fun K25 k25 => sx_region ?_
  refine sx_pure rfl rfl rfl (px_build rfl (xbld53x  _)) ?_
  have f27 := fb4.ext c12
  have f28 := f27.ext c16
  have f29 := f28.ext c21
  refine sx_store (vs := [.bool false, (.slice none 0 0), (.slice none 0 0)]) rfl rfl f29 rfl Try.sizeOf53 (Nat.le_of_ble_eq_true rfl) (one_cons rfl (one_cons rfl (one_cons rfl one_nil))) (fun w26 sw26 fw26 cw26 => ?_)
  have zw26 := cw26.size
  have gw26 : Blk w26 b4 [.bool false, (.slice none 0 0), (.slice none 0 0)] 53 := fw26
  refine sa rfl rfl rfl rfl ?_
  refine wl_nil (q_n (k25 _ _ ?_))
  refine sx_retc ?_
  refine q_r (sx_ret2 Try.results89 ⟨_, rfl, gw26.loadA (vs := [.bool false, (.slice none 0 0), (.slice none 0 0)]) (look_lit rfl) Try.isAgg53 Try.sizeOf53⟩ rfl ?_)
  rw [rR_no (fun h => by omega)]
  have q30 := Chg.step (l := 0) (h := 0) (Chg.zero (l := 0) (h := 0) ((((cb2.t cb4).t c12).t c16).t c21)) cw26 (by omega)
  exact ⟨_, _, w.heap.size, w.heap.size, w.heap.size, w.heap.size, rfl, Own.nil _ _ _ _ _, Own.nil _ _ _ _ _, by omega, ⟨by simp [noR], by simp [noR]⟩, q30⟩
 ·
  refine sx_guardT rfl rfl rfl ?_
  refine sm rfl rfl rfl rfl ?_
  refine sx_guardT rfl rfl rfl ?_
  refine sx_pure rfl rfl rfl (px_len rfl Try.underlying22 os_21.sv) ?_
  refine sx_guardT rfl rfl rfl ?_
  refine sx_pure rfl rfl rfl (px_gt rfl rfl) ?_
  refine sx_pure rfl rfl rfl (px_pick rfl rfl) ?_
  refine wl_nil (q_n (k23 _ _ ?_))
  refine sx_sub (Sub.cons (t := 2) rfl (.cons (t := 4) rfl (.cons (t := 5) rfl (.cons (t := 7) rfl (.cons (t := 9) rfl (.cons (t := 35) rfl (.nil))))))) ?_
  refine sx_condP rfl (fun h26x1 => ?_) (fun h26x1 => ?_)
  ·
   refine sx_seq fun K31 k31 => sx_region ?_
   refine sx_pure rfl rfl rfl (px_build rfl (xbld53x  _)) ?_
   have f33 := fb4.ext c12
   have f34 := f33.ext c16
   have f35 := f34.ext c21
   refine sx_store (vs := [.bool false, (.slice none 0 0), (.slice none 0 0)]) rfl rfl f35 rfl Try.sizeOf53 (Nat.le_of_ble_eq_true rfl) (one_cons rfl (one_cons rfl (one_cons rfl one_nil))) (fun w32 sw32 fw32 cw32 => ?_)
   have zw32 := cw32.size
   have gw32 : Blk w32 b4 [.bool false, (.slice none 0 0), (.slice none 0 0)] 53 := fw32
   refine sa rfl rfl rfl rfl ?_
   refine wl_nil (q_n (k31 _ _ ?_))
   refine sx_retc ?_
   refine q_r (sx_ret2 Try.results89 ⟨_, rfl, gw32.loadA (vs := [.bool false, (.slice none 0 0), (.slice none 0 0)]) (look_lit rfl) Try.isAgg53 Try.sizeOf53⟩ rfl ?_)
   rw [rR_no (fun h => by omega)]
   have q36 := Chg.step (l := 0) (h := 0) (Chg.zero (l := 0) (h := 0) ((((cb2.t cb4).t c12).t c16).t c21)) cw32 (by omega)
   exact ⟨_, _, w.heap.size, w.heap.size, w.heap.size, w.heap.size, rfl, Own.nil _ _ _ _ _, Own.nil _ _ _ _ _, by omega, ⟨by simp [noR], by simp [noR]⟩, q36⟩
  ·
   refine sx_skip ?_
   refine q_n (k22 _ _ ?_)
   refine sx_seq fun K37 k37 => sx_region ?_
   refine sx_pure rfl rfl rfl (px_field rfl xfld29x0) ?_
   have f38 := f14.ext c16
   have f39 := f38.ext c21
   refine sx_pure rfl rfl rfl (px_load rfl (f39.load1 rfl Try.isAgg4)) ?_
   refine sm rfl rfl rfl rfl ?_
   refine sx_call rfl rfl Try.call90 (c_signed f24.sv (by omega)) (fun v40 w40 p40 => ?_)
   obtain ⟨rfl, c40⟩ := p40
   have zw40 := c40.size
   refine sm rfl rfl rfl rfl ?_
   have f41 := os_21.ext c40
   refine sx_pure rfl rfl rfl (px_build rfl (xbld53x0x1 f41.one _)) ?_
   have f43 := fb4.ext c12
   have f44 := f43.ext c16
   have f45 := f44.ext c21
   have f46 := f45.ext c40
   have f47 := f24.ext c40
   refine sx_store (vs := [.bool (nz n (dg (m / (Nat.gcd m d)))), s16, s21]) rfl rfl f46 rfl Try.sizeOf53 (Nat.le_of_ble_eq_true rfl) (one_cons rfl (one_cons f47.one (one_cons f41.one one_nil))) (fun w42 sw42 fw42 cw42 => ?_)
   have zw42 := cw42.size
   have gw42 : Blk w42 b4 [.bool (nz n (dg (m / (Nat.gcd m d)))), s16, s21] 53 := fw42
   refine sa rfl rfl rfl rfl ?_
   refine wl_nil (q_n (k37 _ _ ?_))
   refine sx_retc ?_
   refine sx_ret2 Try.results89 ⟨_, rfl, gw42.loadA (vs := [.bool (nz n (dg (m / (Nat.gcd m d)))), s16, s21]) (look_lit rfl) Try.isAgg53 Try.sizeOf53⟩ rfl ?_
   have hrl := rR_len (x := sgI n m) (d := d)
   rw [rR_ok hd0 (by omega) (by omega)] at hrl ⊢
   have q48 := Chg.step (l := 0) (h := 0) (Chg.zero (l := 0) (h := 0) (((((cb2.t cb4).t c12).t c16).t c21).t c40)) cw42 (by omega)
   have f49 := f47.chg cw42 (by omega)
   have f50 := f41.chg cw42 (by omega)
   exact ⟨_, _, _, _, _, _, rfl, f49, f50, by omega, hrl, q48⟩

theorem c_iDecRat {w : World} {n1 : Bool} {v1 : Value} {lv1 uv1 : Nat} {z1 : List Int} {p1 : Int} (hv1 : Sl w lv1 uv1 v1 (z1)) (h63 : z1.length ≤ 4611686018427387904) :
  Ret Try.prog 52 [.agg #[.bool n1, v1, .int .i64 p1]] w fun v w' => ∃ s t ls us lt ut, v = .agg #[.bool ((dRat n1 z1 p1).1), s, t] ∧ OwnI w' (ls) (us) s intT ((dRat n1 z1 p1).2.1) ∧ OwnI w' (lt) (ut) t intT ((dRat n1 z1 p1).2.2.1) ∧ (w.heap.size ≤ ls ∧ us ≤ w'.heap.size ∧ w.heap.size ≤ lt ∧ ut ≤ w'.heap.size ∧ (us ≤ lt ∨ ut ≤ ls)) ∧ ((dRat n1 z1 p1).2.1.length ≤ 18 ∧ (dRat n1 z1 p1).2.2.1.length ≤ 18) ∧ Chg 0 0 w w' := by
 have hv10 := hv1.fit
 refine sx_enter Try.func52 rfl Try.ntmps52 (Nat.le_of_ble_eq_true rfl) ?_
 refine sx_seq fun K1 k1 => sx_region ?_
 refine sx_box [.bool n1, v1, .int .i64 p1] rfl rfl rfl (fun b2 w3 eb2 sb2 fb2 cb2 => ?_)
 have zw3 := cb2.size
 refine sx_alloc [.bool false, (.slice none 0 0), (.slice none 0 0)] rfl Try.zeroValue53 rfl (fun b4 w5 eb4 sb4 fb4 cb4 => ?_)
 have zw5 := cb4.size
 refine wl_nil (q_n (k1 _ _ ?_))
 refine sx_seq fun K6 k6 => ?_
 refine sx_seq fun K7 k7 => sx_region ?_
 have f8 := fb2.ext cb4
 refine sx_pure rfl rfl rfl (px_load rfl (f8.loadA (vs := [.bool n1, v1, .int .i64 p1]) (look_lit rfl) Try.isAgg31 Try.sizeOf31)) ?_
 have f9 := hv10.ext cb2
 have f10 := f9.ext cb4
 refine sx_call rfl rfl Try.call18 (c_iDecOk f10 (by omega)) (fun v11 w11 p11 => ?_)
 obtain ⟨rfl, c11⟩ := p11
 have zw11 := c11.size
 refine sx_pure rfl rfl rfl (px_notP rfl) ?_
 refine wl_nil (q_n (k7 _ _ ?_))
 refine sx_condP rfl (fun h30 => ?_) (fun h30 => ?_)
 ·
  refine sx_seq fun K12 k12 => sx_region ?_
  refine sx_pure rfl rfl rfl (px_build rfl (xbld53x  _)) ?_
  have f14 := fb4.ext c11
  refine sx_store (vs := [.bool false, (.slice none 0 0), (.slice none 0 0)]) rfl rfl f14 rfl Try.sizeOf53 (Nat.le_of_ble_eq_true rfl) (one_cons rfl (one_cons rfl (one_cons rfl one_nil))) (fun w13 sw13 fw13 cw13 => ?_)
  have zw13 := cw13.size
  have gw13 : Blk w13 b4 [.bool false, (.slice none 0 0), (.slice none 0 0)] 53 := fw13
  refine wl_nil (q_n (k12 _ _ ?_))
  refine sx_retc ?_
  refine q_r (sx_ret1 Try.results52 ⟨_, rfl, gw13.loadA (vs := [.bool false, (.slice none 0 0), (.slice none 0 0)]) (look_lit rfl) Try.isAgg53 Try.sizeOf53⟩ ?_)
  rw [dRat_no h30]
  have q15 := Chg.step (l := 0) (h := 0) (Chg.zero (l := 0) (h := 0) ((cb2.t cb4).t c11)) cw13 (by omega)
  exact ⟨_, _, w.heap.size, w.heap.size, w.heap.size, w.heap.size, rfl, Own.nil _ _ _ _ _, Own.nil _ _ _ _ _, by omega, ⟨by simp [noR], by simp [noR]⟩, q15⟩
 ·
  have hD := Decidable.not_not.1 h30
  obtain ⟨x1, rfl, rfl, hx1⟩ := hD.int
  have ltn := ten_len' (k := p1) (by omega)
  refine sx_skip ?_
  refine q_n (k6 _ _ ?_)
  refine sx_seq fun K16 k16 => ?_
  refine sx_cut k16 (fun fr w' => ∃ (gb17x0 : Nat) (gs17x1 : Value) (gl17x1 : Nat) (gu17x1 : Nat) (gs17x2 : Value) (gl17x2 : Nat) (gu17x2 : Nat), fr = [(2, .pointer (some ⟨b4, 0, none⟩)), (3, .pointer (some ⟨gb17x0, 0, none⟩))] ∧ Chg 0 0 w11 w' ∧ (Blk w' gb17x0 [.bool ((rR (sgI (ng x1) x1.natAbs) (10 ^ (p1).toNat)).1), gs17x1, gs17x2] 53) ∧ (Own w' gl17x1 gu17x1 gs17x1 intT (((rR (sgI (ng x1) x1.natAbs) (10 ^ (p1).toNat)).2.1).length) 1 (((rR (sgI (ng x1) x1.natAbs) (10 ^ (p1).toNat)).2.1).map (Value.int .i64))) ∧ (Own w' gl17x2 gu17x2 gs17x2 intT (((rR (sgI (ng x1) x1.natAbs) (10 ^ (p1).toNat)).2.2.1).length) 1 (((rR (sgI (ng x1) x1.natAbs) (10 ^ (p1).toNat)).2.2.1).map (Value.int .i64))) ∧ (w11.heap.size ≤ gb17x0 ∧ gb17x0 + 1 ≤ w'.heap.size) ∧ (w11.heap.size ≤ gl17x1 ∧ gu17x1 ≤ w'.heap.size) ∧ (w11.heap.size ≤ gl17x2 ∧ gu17x2 ≤ w'.heap.size) ∧ (gu17x1 ≤ gb17x0 ∨ gb17x0 + 1 ≤ gl17x1) ∧ (gu17x2 ≤ gb17x0 ∨ gb17x0 + 1 ≤ gl17x2) ∧ (gu17x2 ≤ gl17x1 ∨ gu17x1 ≤ gl17x2)) (fun kc17 => ?_) ?_
  ·
   have f18 := f8.ext c11
   have f19 := fb4.ext c11
   have f20 := f10.ext c11
   refine dx_region (fun w' => Chg 0 0 w11 w') (by kernel_rfl) (Chg.zero (Chg.drew _)) ?_
   have d21 := Chg.drew w11
   have s21 : Chg 0 0 w11 (World.drew w11) := Chg.zero (Chg.drew _)
   have y21 : (World.drew w11).heap.size = w11.heap.size := rfl
   generalize World.drew w11 = w21 at *
   have zw21 := d21.size
   refine dx_take 0 rfl rfl rfl rfl (by kernel_rfl) (by kernel_rfl) (by kernel_rfl) s21 (fun _ hS => px_field rfl xfld31x0) ?_
   refine dx_take 1 rfl rfl rfl rfl (by kernel_rfl) (by kernel_rfl) (by kernel_rfl) s21 (fun _ hS => px_load rfl ((f18.chg hS (by omega)).loadA (vs := [.bool (ng x1), v1]) (look_lit rfl) Try.isAgg29 Try.sizeOf29)) ?_
   refine dx_take 2 rfl rfl rfl rfl (by kernel_rfl) (by kernel_rfl) (by kernel_rfl) s21 (fun _ hS => px_field rfl xfld31x1) ?_
   refine dx_take 3 rfl rfl rfl rfl (by kernel_rfl) (by kernel_rfl) (by kernel_rfl) s21 (fun _ hS => px_load rfl ((f18.chg hS (by omega)).load1 rfl Try.isAgg3)) ?_
   refine dx_eff2 4 9 rfl rfl (by kernel_rfl) ?_ ?_
   ·
    refine sx_call rfl rfl Try.call97 (c_natTen (by omega)) (fun v22 w22 p22 => ?_)
    obtain ⟨s22, rfl, os_22, c22⟩ := p22
    have zw22 := c22.size
    have s23 : Chg 0 0 w11 w22 := (d21.t c22)
    refine wl_nil ?_
    refine dx_next s23 ?_
    refine dx_eff2 5 9 rfl rfl (by kernel_rfl) ?_ ?_
    ·
     have f24 := f20.ext d21
     have f25 := f24.ext c22
     refine sx_call rfl rfl Try.call89 (c_reduce f25 os_22.sv (by omega) (by omega) (Nat.pow_pos (by decide))) (fun v26 w26 p26 => ?_)
     obtain ⟨s26, t26, ls26, us26, lt26, ut26, rfl, os_26, ot_26, hd26, hl26, c26⟩ := p26
     have zw26 := c26.size
     have s27 : Chg 0 0 w11 w26 := ((d21.t c22).t c26)
     refine wl_nil ?_
     refine dx_next s27 ?_
     refine dx_take 6 rfl rfl rfl rfl (by kernel_rfl) (by kernel_rfl) (by kernel_rfl) s27 (fun _ hS => px_move rfl) ?_
     refine dx_take 7 rfl rfl rfl rfl (by kernel_rfl) (by kernel_rfl) (by kernel_rfl) s27 (fun _ hS => px_extract (vs := [.agg #[.bool ((rR (sgI (ng x1) x1.natAbs) (10 ^ (p1).toNat)).1), s26, t26], .bool ((rR (sgI (ng x1) x1.natAbs) (10 ^ (p1).toNat)).2.2.2)]) rfl rfl) ?_
     refine dx_take 8 rfl rfl rfl rfl (by kernel_rfl) (by kernel_rfl) (by kernel_rfl) s27 (fun _ hS => px_extract (vs := [.agg #[.bool ((rR (sgI (ng x1) x1.natAbs) (10 ^ (p1).toNat)).1), s26, t26], .bool ((rR (sgI (ng x1) x1.natAbs) (10 ^ (p1).toNat)).2.2.2)]) rfl rfl) ?_
     refine dx_eff 9 rfl (by kernel_rfl) ?_
     refine sx_alloc [.bool false, (.slice none 0 0), (.slice none 0 0)] rfl Try.zeroValue53 rfl (fun b28 w29 eb28 sb28 fb28 cb28 => ?_)
     have zw29 := cb28.size
     have s30 : Chg 0 0 w11 w29 := (((d21.t c22).t c26).t cb28)
     refine wl_nil ?_
     refine dx_next s30 ?_
     refine dx_eff 10 rfl (by kernel_rfl) ?_
     have f32 := ot_26.ext cb28
     have f33 := os_26.ext cb28
     refine sx_store (vs := [.bool ((rR (sgI (ng x1) x1.natAbs) (10 ^ (p1).toNat)).1), s26, t26]) rfl rfl fb28 rfl Try.sizeOf53 (Nat.le_of_ble_eq_true rfl) (one_cons rfl (one_cons f33.one (one_cons f32.one one_nil))) (fun w31 sw31 fw31 cw31 => ?_)
     have zw31 := cw31.size
     have gw31 : Blk w31 b28 [.bool ((rR (sgI (ng x1) x1.natAbs) (10 ^ (p1).toNat)).1), s26, t26] 53 := fw31
     have q35 := Chg.step (l := 0) (h := 0) (Chg.zero (l := 0) (h := 0) (((d21.t c22).t c26).t cb28)) cw31 (by omega)
     have s34 : Chg 0 0 w11 w31 := q35
     refine wl_nil ?_
     refine dx_next s34 ?_
     refine dx_take 11 rfl rfl rfl rfl (by kernel_rfl) (by kernel_rfl) (by kernel_rfl) s34 (fun _ hS => px_assign rfl) ?_
     refine dx_done (by kernel_rfl) ?_
     have f36 := f33.chg cw31 (by omega)
     have f37 := f32.chg cw31 (by omega)
     have q38 := Chg.step (l := 0) (h := 0) (Chg.zero (l := 0) (h := 0) (((d21.t c22).t c26).t cb28)) cw31 (by omega)
     exact q_n (kw_sub (Sub.cons (t := 2) rfl (.cons (t := 3) rfl (.nil))) (kc17 _ _ ⟨b28, s26, ls26, us26, t26, lt26, ut26, rfl, q38, gw31, f36, f37, by omega, by omega, by omega, by omega, by omega, by omega⟩))
    ·
     refine sx_alloc [.bool false, (.slice none 0 0), (.slice none 0 0)] rfl Try.zeroValue53 rfl (fun b39 w40 eb39 sb39 fb39 cb39 => ?_)
     have zw40 := cb39.size
     have s41 : Chg 0 0 w11 w40 := ((d21.t c22).t cb39)
     refine wl_nil ?_
     refine dx_next s41 ?_
     refine dx_eff 5 rfl (by kernel_rfl) ?_
     have f42 := f20.ext d21
     have f43 := f42.ext c22
     have f44 := f43.ext cb39
     have f45 := os_22.ext cb39
     refine sx_call rfl rfl Try.call89 (c_reduce f44 f45.sv (by omega) (by omega) (Nat.pow_pos (by decide))) (fun v46 w46 p46 => ?_)
     obtain ⟨s46, t46, ls46, us46, lt46, ut46, rfl, os_46, ot_46, hd46, hl46, c46⟩ := p46
     have zw46 := c46.size
     have s47 : Chg 0 0 w11 w46 := (((d21.t c22).t cb39).t c46)
     refine wl_nil ?_
     refine dx_next s47 ?_
     refine dx_take 6 rfl rfl rfl rfl (by kernel_rfl) (by kernel_rfl) (by kernel_rfl) s47 (fun _ hS => px_move rfl) ?_
     refine dx_take 7 rfl rfl rfl rfl (by kernel_rfl) (by kernel_rfl) (by kernel_rfl) s47 (fun _ hS => px_extract (vs := [.agg #[.bool ((rR (sgI (ng x1) x1.natAbs) (10 ^ (p1).toNat)).1), s46, t46], .bool ((rR (sgI (ng x1) x1.natAbs) (10 ^ (p1).toNat)).2.2.2)]) rfl rfl) ?_
     refine dx_take 8 rfl rfl rfl rfl (by kernel_rfl) (by kernel_rfl) (by kernel_rfl) s47 (fun _ hS => px_extract (vs := [.agg #[.bool ((rR (sgI (ng x1) x1.natAbs) (10 ^ (p1).toNat)).1), s46, t46], .bool ((rR (sgI (ng x1) x1.natAbs) (10 ^ (p1).toNat)).2.2.2)]) rfl rfl) ?_
     refine dx_eff 10 rfl (by kernel_rfl) ?_
     have f49 := fb39.ext c46
     refine sx_store (vs := [.bool ((rR (sgI (ng x1) x1.natAbs) (10 ^ (p1).toNat)).1), s46, t46]) rfl rfl f49 rfl Try.sizeOf53 (Nat.le_of_ble_eq_true rfl) (one_cons rfl (one_cons os_46.one (one_cons ot_46.one one_nil))) (fun w48 sw48 fw48 cw48 => ?_)
     have zw48 := cw48.size
     have gw48 : Blk w48 b39 [.bool ((rR (sgI (ng x1) x1.natAbs) (10 ^ (p1).toNat)).1), s46, t46] 53 := fw48
     have q51 := Chg.step (l := 0) (h := 0) (Chg.zero (l := 0) (h := 0) (((d21.t c22).t cb39).t c46)) cw48 (by omega)
     have s50 : Chg 0 0 w11 w48 := q51
     refine wl_nil ?_
     refine dx_next s50 ?_
     refine dx_take 11 rfl rfl rfl rfl (by kernel_rfl) (by kernel_rfl) (by kernel_rfl) s50 (fun _ hS => px_assign rfl) ?_
     refine dx_done (by kernel_rfl) ?_
     have f52 := os_46.chg cw48 (by omega)
     have f53 := ot_46.chg cw48 (by omega)
     have q54 := Chg.step (l := 0) (h := 0) (Chg.zero (l := 0) (h := 0) (((d21.t c22).t cb39).t c46)) cw48 (by omega)
     exact q_n (kw_sub (Sub.cons (t := 2) rfl (.cons (t := 3) rfl (.nil))) (kc17 _ _ ⟨b39, s46, ls46, us46, t46, lt46, ut46, rfl, q54, gw48, f52, f53, by omega, by omega, by omega, by omega, by omega, by omega⟩))
   ·
    refine sx_alloc [.bool false, (.slice none 0 0), (.slice none 0 0)] rfl Try.zeroValue53 rfl (fun b55 w56 eb55 sb55 fb55 cb55 => ?_)
    have zw56 := cb55.size
    have s57 : Chg 0 0 w11 w56 := (d21.t cb55)
    refine wl_nil ?_
    refine dx_next s57 ?_
    refine dx_eff 4 rfl (by kernel_rfl) ?_
    refine sx_call rfl rfl Try.call97 (c_natTen (by omega)) (fun v58 w58 p58 => ?_)
    obtain ⟨s58, rfl, os_58, c58⟩ := p58
    have zw58 := c58.size
    have s59 : Chg 0 0 w11 w58 := ((d21.t cb55).t c58)
    refine wl_nil ?_
    refine dx_next s59 ?_
    refine dx_eff 5 rfl (by kernel_rfl) ?_
    have f60 := f20.ext d21
    have f61 := f60.ext cb55
    have f62 := f61.ext c58
    refine sx_call rfl rfl Try.call89 (c_reduce f62 os_58.sv (by omega) (by omega) (Nat.pow_pos (by decide))) (fun v63 w63 p63 => ?_)
    obtain ⟨s63, t63, ls63, us63, lt63, ut63, rfl, os_63, ot_63, hd63, hl63, c63⟩ := p63
    have zw63 := c63.size
    have s64 : Chg 0 0 w11 w63 := (((d21.t cb55).t c58).t c63)
    refine wl_nil ?_
    refine dx_next s64 ?_
    refine dx_take 6 rfl rfl rfl rfl (by kernel_rfl) (by kernel_rfl) (by kernel_rfl) s64 (fun _ hS => px_move rfl) ?_
    refine dx_take 7 rfl rfl rfl rfl (by kernel_rfl) (by kernel_rfl) (by kernel_rfl) s64 (fun _ hS => px_extract (vs := [.agg #[.bool ((rR (sgI (ng x1) x1.natAbs) (10 ^ (p1).toNat)).1), s63, t63], .bool ((rR (sgI (ng x1) x1.natAbs) (10 ^ (p1).toNat)).2.2.2)]) rfl rfl) ?_
    refine dx_take 8 rfl rfl rfl rfl (by kernel_rfl) (by kernel_rfl) (by kernel_rfl) s64 (fun _ hS => px_extract (vs := [.agg #[.bool ((rR (sgI (ng x1) x1.natAbs) (10 ^ (p1).toNat)).1), s63, t63], .bool ((rR (sgI (ng x1) x1.natAbs) (10 ^ (p1).toNat)).2.2.2)]) rfl rfl) ?_
    refine dx_eff 10 rfl (by kernel_rfl) ?_
    have f66 := fb55.ext c58
    have f67 := f66.ext c63
    refine sx_store (vs := [.bool ((rR (sgI (ng x1) x1.natAbs) (10 ^ (p1).toNat)).1), s63, t63]) rfl rfl f67 rfl Try.sizeOf53 (Nat.le_of_ble_eq_true rfl) (one_cons rfl (one_cons os_63.one (one_cons ot_63.one one_nil))) (fun w65 sw65 fw65 cw65 => ?_)
    have zw65 := cw65.size
    have gw65 : Blk w65 b55 [.bool ((rR (sgI (ng x1) x1.natAbs) (10 ^ (p1).toNat)).1), s63, t63] 53 := fw65
    have q69 := Chg.step (l := 0) (h := 0) (Chg.zero (l := 0) (h := 0) (((d21.t cb55).t c58).t c63)) cw65 (by omega)
    have s68 : Chg 0 0 w11 w65 := q69
    refine wl_nil ?_
    refine dx_next s68 ?_
    refine dx_take 11 rfl rfl rfl rfl (by kernel_rfl) (by kernel_rfl) (by kernel_rfl) s68 (fun _ hS => px_assign rfl) ?_
    refine dx_done (by kernel_rfl) ?_
    have f70 := os_63.chg cw65 (by omega)
    have f71 := ot_63.chg cw65 (by omega)
    have q72 := Chg.step (l := 0) (h := 0) (Chg.zero (l := 0) (h := 0) (((d21.t cb55).t c58).t c63)) cw65 (by omega)
    exact q_n (kw_sub (Sub.cons (t := 2) rfl (.cons (t := 3) rfl (.nil))) (kc17 _ _ ⟨b55, s63, ls63, us63, t63, lt63, ut63, rfl, q72, gw65, f70, f71, by omega, by omega, by omega, by omega, by omega, by omega⟩))
  ·
   rintro fr w'17 ⟨gb17x0, gs17x1, gl17x1, gu17x1, gs17x2, gl17x2, gu17x2, rfl, cw'17, xgb17x0, xgs17x1, xgs17x2, ygb17x0, ygl17x1, ygl17x2, dgl17x1xgb17x0, dgl17x2xgb17x0, dgl17x2xgl17x1⟩
   have zw'17 := cw'17.size
   refine sx_seq fun K73 k73 => sx_region ?_
   refine sx_pure rfl rfl rfl (px_load rfl (xgb17x0.loadA (vs := [.bool ((rR (sgI (ng x1) x1.natAbs) (10 ^ (p1).toNat)).1), gs17x1, gs17x2]) (look_lit rfl) Try.isAgg53 Try.sizeOf53)) ?_
   have f75 := fb4.ext c11
   have f76 := f75.ext cw'17
   refine sx_store (vs := [.bool ((rR (sgI (ng x1) x1.natAbs) (10 ^ (p1).toNat)).1), gs17x1, gs17x2]) rfl rfl f76 rfl Try.sizeOf53 (Nat.le_of_ble_eq_true rfl) (one_cons rfl (one_cons xgs17x1.one (one_cons xgs17x2.one one_nil))) (fun w74 sw74 fw74 cw74 => ?_)
   have zw74 := cw74.size
   have gw74 : Blk w74 b4 [.bool ((rR (sgI (ng x1) x1.natAbs) (10 ^ (p1).toNat)).1), gs17x1, gs17x2] 53 := fw74
   refine wl_nil (q_n (k73 _ _ ?_))
   refine sx_retc ?_
   refine sx_ret1 Try.results52 ⟨_, rfl, gw74.loadA (vs := [.bool ((rR (sgI (ng x1) x1.natAbs) (10 ^ (p1).toNat)).1), gs17x1, gs17x2]) (look_lit rfl) Try.isAgg53 Try.sizeOf53⟩ ?_
   have hrl := dRat_len (n := ng x1) (z := dg x1.natAbs) (p := p1)
   rw [dRat_ok hD] at hrl ⊢
   have q77 := Chg.step (l := 0) (h := 0) (Chg.zero (l := 0) (h := 0) (((cb2.t cb4).t c11).t cw'17)) cw74 (by omega)
   have f78 := xgs17x1.chg cw74 (by omega)
   have f79 := xgs17x2.chg cw74 (by omega)
   exact ⟨_, _, _, _, _, _, rfl, f78, f79, by omega, hrl, q77⟩

theorem c_markRat {w : World} {n1 : Bool} {v1 : Value} {lv1 uv1 : Nat} {z1 : List Int} {d1 : Value} {ld1 ud1 : Nat} {y1 : List Int} {n : Int} (hv1 : OwnI w lv1 uv1 v1 intT (z1)) (hd1 : OwnI w ld1 ud1 d1 intT (y1)) (h63 : z1.length ≤ 1048576 ∧ y1.length ≤ 1048576) (hn : 0 ≤ n ∧ n ≤ 4000000000000000000) (hdd : (uv1 ≤ ld1 ∨ ud1 ≤ lv1) ∧ uv1 ≤ w.heap.size ∧ ud1 ≤ w.heap.size) :
  Ret Try.prog 49 [.agg #[.bool n1, v1, d1], .int .i64 n] w fun v w' => v = .int .i64 (n + ↑(z1).length + ↑(y1).length) ∧ OwnI w' (lv1) (uv1) v1 intT (mk n (z1).length) ∧ OwnI w' (ld1) (ud1) d1 intT (mk (n + ↑(z1).length) (y1).length) ∧ Chg (min lv1 ld1) (max uv1 ud1) w w' := by
 refine sx_enter Try.func49 rfl Try.ntmps49 (Nat.le_of_ble_eq_true rfl) ?_
 refine sx_seq fun K1 k1 => sx_region ?_
 refine sx_box [.bool n1, v1, d1] rfl rfl rfl (fun b2 w3 eb2 sb2 fb2 cb2 => ?_)
 have zw3 := cb2.size
 refine sa rfl rfl rfl rfl ?_
 refine wl_nil (q_n (k1 _ _ ?_))
 refine sx_seq fun K4 k4 => sx_region ?_
 refine sx_pure rfl rfl rfl (px_field rfl xfld53x0) ?_
 refine sx_pure rfl rfl rfl (px_load rfl (fb2.loadA (vs := [.bool n1, v1]) (look_lit rfl) Try.isAgg29 Try.sizeOf29)) ?_
 refine sm rfl rfl rfl rfl ?_
 have f5 := hv1.ext cb2
 refine sx_call rfl rfl Try.call47 (c_markSigned f5 (by omega) (by omega)) (fun v6 w6 p6 => ?_)
 obtain ⟨rfl, ov1_6, c6⟩ := p6
 have zw6 := c6.size
 refine sa rfl rfl rfl rfl ?_
 refine wl_nil (q_n (k4 _ _ ?_))
 refine sx_seq fun K7 k7 => sx_region ?_
 refine sx_pure rfl rfl rfl (px_field rfl xfld53x1) ?_
 have f8 := fb2.chg c6 (by omega)
 refine sx_pure rfl rfl rfl (px_load rfl (f8.load1 rfl Try.isAgg22)) ?_
 refine sm rfl rfl rfl rfl ?_
 have f9 := hd1.ext cb2
 have f10 := f9.chg c6 (by omega)
 refine sx_call rfl rfl Try.call48 (c_markIntS f10 (by omega) (by omega)) (fun v11 w11 p11 => ?_)
 obtain ⟨rfl, ova_11, c11⟩ := p11
 have zw11 := c11.size
 refine sa rfl rfl rfl rfl ?_
 refine wl_nil (q_n (k7 _ _ ?_))
 refine sx_seq fun K12 k12 => sx_region ?_
 refine sm rfl rfl rfl rfl ?_
 refine sa rfl rfl rfl rfl ?_
 refine wl_nil (q_n (k12 _ _ ?_))
 refine sx_retc ?_
 refine sx_ret1 Try.results49 rfl ?_
 have f13 := ov1_6.chg c11 (by omega)
 have q14 := Chg.step (l := (min lv1 ld1)) (h := (max uv1 ud1)) (Chg.zero (l := (min lv1 ld1)) (h := (max uv1 ud1)) cb2) c6 (by omega)
 have q15 := Chg.step (l := (min lv1 ld1)) (h := (max uv1 ud1)) q14 c11 (by omega)
 exact ⟨rfl, f13, ova_11, q15⟩

theorem c_heldRat {w : World} {n1 : Bool} {v1 : Value} {lv1 uv1 : Nat} {z1 : List Int} {d1 : Value} {ld1 ud1 : Nat} {y1 : List Int} {n : Int} (hv1 : Sl w lv1 uv1 v1 (z1)) (hd1 : Sl w ld1 ud1 d1 (y1)) (h63 : z1.length ≤ 1048576 ∧ y1.length ≤ 1048576) (hn : 0 ≤ n ∧ n ≤ 4000000000000000000) (hz : z1 = mk n z1.length ∧ y1 = mk (n + ↑z1.length) y1.length) :
  Ret Try.prog 50 [.agg #[.bool n1, v1, d1], .int .i64 n] w fun v w' => v = .int .i64 (n + ↑(z1).length + ↑(y1).length) ∧ Chg 0 0 w w' := by
 have hv10 := hv1.fit
 have hd10 := hd1.fit
 have hz1 := hz.1
 have hz2 := hz.2
 refine sx_enter Try.func50 rfl Try.ntmps50 (Nat.le_of_ble_eq_true rfl) ?_
 refine sx_seq fun K1 k1 => sx_region ?_
 refine sx_box [.bool n1, v1, d1] rfl rfl rfl (fun b2 w3 eb2 sb2 fb2 cb2 => ?_)
 have zw3 := cb2.size
 refine sa rfl rfl rfl rfl ?_
 refine wl_nil (q_n (k1 _ _ ?_))
 refine sx_seq fun K4 k4 => sx_region ?_
 refine sx_pure rfl rfl rfl (px_field rfl xfld53x0) ?_
 refine sx_pure rfl rfl rfl (px_load rfl (fb2.loadA (vs := [.bool n1, v1]) (look_lit rfl) Try.isAgg29 Try.sizeOf29)) ?_
 refine sm rfl rfl rfl rfl ?_
 have f5 := hv10.ext cb2
 refine sx_call rfl rfl Try.call55 (c_heldSigned f5 (by first | omega | (simp only [mk_length]; omega)) (by omega) (by first | assumption | simp [mk_length])) (fun v6 w6 p6 => ?_)
 obtain ⟨rfl, c6⟩ := p6
 have zw6 := c6.size
 refine sa rfl rfl rfl rfl ?_
 refine wl_nil (q_n (k4 _ _ ?_))
 refine sx_seq fun K7 k7 => ?_
 refine sx_seq fun K8 k8 => sx_region ?_
 refine sm rfl rfl rfl rfl ?_
 refine sx_pure rfl rfl rfl (px_lt rfl rfl) ?_
 refine wl_nil (q_n (k8 _ _ ?_))
 have h379 : ¬ ((n + ↑(z1).length : Int) < 0) := by omega
 refine sx_condPF rfl h379 ?_
 refine sx_skip ?_
 refine q_n (k7 _ _ ?_)
 refine sx_seq fun K9 k9 => sx_region ?_
 refine sx_pure rfl rfl rfl (px_field rfl xfld53x1) ?_
 have f10 := fb2.ext c6
 refine sx_pure rfl rfl rfl (px_load rfl (f10.load1 rfl Try.isAgg22)) ?_
 refine sm rfl rfl rfl rfl ?_
 have f11 := hd10.ext cb2
 have f12 := f11.ext c6
 refine sx_call rfl rfl Try.call94 (c_heldIntS f12 (by omega) (by omega) (by first | assumption | simp [mk_length])) (fun v13 w13 p13 => ?_)
 obtain ⟨rfl, c13⟩ := p13
 have zw13 := c13.size
 refine sa rfl rfl rfl rfl ?_
 refine wl_nil (q_n (k9 _ _ ?_))
 refine sx_seq fun K14 k14 => ?_
 refine sx_seq fun K15 k15 => sx_region ?_
 refine sm rfl rfl rfl rfl ?_
 refine sx_pure rfl rfl rfl (px_lt rfl rfl) ?_
 refine wl_nil (q_n (k15 _ _ ?_))
 refine sx_sub (Sub.cons (t := 1) rfl (.cons (t := 4) rfl (.cons (t := 16) rfl (.nil)))) ?_
 have h383 : ¬ (((n + ↑(z1).length) + ↑(y1).length : Int) < 0) := by omega
 refine sx_condPF rfl h383 ?_
 refine sx_skip ?_
 refine q_n (k14 _ _ ?_)
 refine sx_seq fun K16 k16 => sx_region ?_
 refine sm rfl rfl rfl rfl ?_
 refine sa rfl rfl rfl rfl ?_
 refine wl_nil (q_n (k16 _ _ ?_))
 refine sx_retc ?_
 refine sx_ret1 Try.results50 rfl ?_
 exact ⟨rfl, ((cb2.t c6).t c13)⟩

theorem c_l12Sum {w : World} {va : Value} {lva uva : Nat} {zs : List Int} (hva : Sl w lva uva va (zs)) (h63 : zs.length ≤ 30) (hz : ∀ x ∈ zs, 0 ≤ x ∧ x ≤ 1000000000) :
  Ret Try.prog 87 [va] w fun v w' => v = .int .i64 ((zs).sum) ∧ Chg 0 0 w w' := by
 have hva0 := hva.fit
 refine sx_enter Try.func87 rfl Try.ntmps87 (Nat.le_of_ble_eq_true rfl) ?_
 refine sx_seq fun K1 k1 => sx_region ?_
 refine sa rfl rfl rfl rfl ?_
 refine wl_nil (q_n (k1 _ _ ?_))
 refine sx_seq fun K2 k2 => sx_region ?_
 refine sa rfl rfl rfl rfl ?_
 refine wl_nil (q_n (k2 _ _ ?_))
 refine sx_seq fun K3 k3 => ?_
 refine sx_seq fun K4 k4 => sx_region ?_
 refine sm rfl rfl rfl rfl ?_
 refine sx_pure rfl rfl rfl (px_len rfl Try.underlying22 hva0) ?_
 refine sm rfl rfl rfl rfl ?_
 refine wl_nil (q_n (k4 _ _ ?_))
 refine sx_block ?_
 refine sx_loop (fun mm aa w' => ∃ (k : Nat), Agr 17 [(3, .int .i64 ((zs.take k).sum)), (6, va), (7, .int .i64 ↑zs.length), (8, .int .i64 ↑k)] aa ∧ Chg 0 0 w w' ∧ (mm = zs.length - k) ∧ (k ≤ zs.length)) (_) (fun a ha => ⟨0, ha.sub (Sub.cons (t := 3) (look_int (t := 3) rfl (by first | omega | simp)) (.cons (t := 6) rfl (.cons (t := 7) (look_int (t := 7) rfl (by first | omega | simp)) (.cons (t := 8) (look_int (t := 8) rfl (by first | omega | simp)) (.nil))))), Chg.refl _ _ _, rfl, by omega⟩) ?_
 rintro mm aa wl5 ⟨k, hAwl5, cwl5, hm, hk⟩
 refine (show cw Try.prog 17 _ _ _ wl5 from ?_) aa hAwl5
 clear hAwl5
 have zwl5 := cwl5.size
 have hs := sum_bd hz k hk
 refine sx_seq fun K6 k6 => sx_region ?_
 refine sx_pure rfl rfl rfl (px_lt rfl rfl) ?_
 refine wl_nil (q_n (k6 _ _ ?_))
 refine sx_seq fun K7 k7 => ?_
 refine sx_condP rfl (fun h7 => ?_) (fun h7 => ?_)
 ·
  refine sx_skip ?_
  refine q_n (k7 _ _ ?_)
  refine sx_seq fun K8 k8 => ?_
  refine sx_block ?_
  refine sx_seq fun K9 k9 => sx_region ?_
  have f10 := hva0.ext cwl5
  refine sx_pure rfl rfl rfl (px_index1 (j := k) rfl rfl (by omega) Try.underlying22 Try.sizeOf3 f10 (by omega)) ?_
  refine sx_pure rfl rfl rfl (px_load rfl (f10.load1 (at_int (by omega)) Try.isAgg3)) ?_
  refine sa rfl rfl rfl rfl ?_
  refine wl_nil (q_n (k9 _ _ ?_))
  refine sx_region ?_
  refine sm rfl rfl rfl rfl ?_
  refine sm rfl rfl rfl rfl ?_
  refine sx_pure rfl rfl rfl (px_add rfl rfl (by first | omega | (have hb := bd_getD hz (k := k) (by omega); omega))) ?_
  refine sa rfl rfl rfl rfl ?_
  refine wl_nil ?_
  refine q_bn (q_n (k8 _ _ ?_))
  refine sx_region ?_
  refine sx_pure rfl rfl rfl (px_add rfl rfl (by first | omega | (have hb := bd_getD hz (k := k) (by omega); omega))) ?_
  refine sm rfl rfl rfl rfl ?_
  refine wl_nil ?_
  have hs1 := sum_take_succ (zs := zs) (k := k) (by omega)
  exact fun a ha => ⟨_, by omega, (k + 1), ha.sub (Sub.cons (t := 3) (look_int (t := 3) rfl (by first | omega | simp)) (.cons (t := 6) rfl (.cons (t := 7) rfl (.cons (t := 8) (look_int (t := 8) rfl (by first | omega | simp)) (.nil))))), cwl5, rfl, by omega⟩
 ·
  refine sx_exit ?_
  refine q_e (q_e (q_bx (q_n (k3 _ _ ?_))))
  refine sx_seq fun K11 k11 => sx_region ?_
  refine sm rfl rfl rfl rfl ?_
  refine sa rfl rfl rfl rfl ?_
  refine wl_nil (q_n (k11 _ _ ?_))
  refine sx_retc ?_
  refine sx_ret1 Try.results87 rfl ?_
  have e1 : k = zs.length := by omega
  rw [e1, List.take_length]
  exact ⟨rfl, cwl5⟩

theorem c_sWeightsOk {w : World} {va : Value} {lva uva : Nat} {zs : List Int} (hva : Sl w lva uva va (zs)) (h63 : zs.length ≤ 1048576) :
  Ret Try.prog 83 [va] w fun v w' => v = .bool (decide (WOk zs)) ∧ Chg 0 0 w w' := by
 have hva0 := hva.fit
 refine sx_enter Try.func83 rfl Try.ntmps83 (Nat.le_of_ble_eq_true rfl) ?_
 refine sx_seq fun K1 k1 => sx_region ?_
 refine sa rfl rfl rfl rfl ?_
 refine wl_nil (q_n (k1 _ _ ?_))
 refine sx_seq fun K2 k2 => ?_
 refine sx_seq fun K3 k3 => sx_region ?_
 refine sm rfl rfl rfl rfl ?_
 refine sx_pure rfl rfl rfl (px_len rfl Try.underlying22 hva0) ?_
 refine sx_call rfl rfl Try.call61 (c_l01In) (fun v4 w4 p4 => ?_)
 obtain ⟨rfl, c4⟩ := p4
 have zw4 := c4.size
 refine sx_pure rfl rfl rfl (px_notP rfl) ?_
 refine wl_nil (q_n (k3 _ _ ?_))
 refine sx_condP rfl (fun h15 => ?_) (fun h15 => ?_)
 ·
  refine sx_seq fun K5 k5 => sx_region ?_
  refine sa rfl rfl rfl rfl ?_
  refine wl_nil (q_n (k5 _ _ ?_))
  refine sx_retc ?_
  refine q_r (sx_ret1 Try.results83 rfl ?_)
  exact ⟨bFalse (fun h => by have h1 := h.1; have h2 := h.2.1; omega), c4⟩
 ·
  refine sx_skip ?_
  refine q_n (k2 _ _ ?_)
  refine sx_seq fun K6 k6 => ?_
  refine sx_seq fun K7 k7 => sx_region ?_
  refine sm rfl rfl rfl rfl ?_
  have f8 := hva0.ext c4
  refine sx_pure rfl rfl rfl (px_len rfl Try.underlying22 f8) ?_
  refine sm rfl rfl rfl rfl ?_
  refine wl_nil (q_n (k7 _ _ ?_))
  refine sx_block ?_
  refine sx_loop (fun mm aa w' => ∃ (k : Nat), Agr 22 [(0, va), (9, va), (10, .int .i64 ↑zs.length), (11, .int .i64 ↑k)] aa ∧ Chg 0 0 w4 w' ∧ (mm = zs.length - k) ∧ (k ≤ zs.length) ∧ (∀ i, i < k → 0 ≤ zs.getD i 0 ∧ zs.getD i 0 ≤ 1000000000)) (_) (fun a ha => ⟨0, ha.sub (Sub.cons (t := 0) rfl (.cons (t := 9) rfl (.cons (t := 10) (look_int (t := 10) rfl (by first | omega | simp)) (.cons (t := 11) (look_int (t := 11) rfl (by first | omega | simp)) (.nil))))), Chg.refl _ _ _, rfl, by omega, fun i h => by omega⟩) ?_
  rintro mm aa wl9 ⟨k, hAwl9, cwl9, hm, hk, hall⟩
  refine (show cw Try.prog 22 _ _ _ wl9 from ?_) aa hAwl9
  clear hAwl9
  have zwl9 := cwl9.size
  refine sx_seq fun K10 k10 => sx_region ?_
  refine sx_pure rfl rfl rfl (px_lt rfl rfl) ?_
  refine wl_nil (q_n (k10 _ _ ?_))
  refine sx_seq fun K11 k11 => ?_
  refine sx_condP rfl (fun h18 => ?_) (fun h18 => ?_)
  ·
   refine sx_skip ?_
   refine q_n (k11 _ _ ?_)
   refine sx_seq fun K12 k12 => ?_
   refine sx_block ?_
   refine sx_seq fun K13 k13 => sx_region ?_
   have f14 := f8.ext cwl9
   refine sx_pure rfl rfl rfl (px_index1 (j := k) rfl rfl (by omega) Try.underlying22 Try.sizeOf3 f14 (by omega)) ?_
   refine sx_pure rfl rfl rfl (px_load rfl (f14.load1 (at_int (by omega)) Try.isAgg3)) ?_
   refine sa rfl rfl rfl rfl ?_
   refine wl_nil (q_n (k13 _ _ ?_))
   refine sx_seq fun K15 k15 => sx_region ?_
   refine sm rfl rfl rfl rfl ?_
   refine sx_call rfl rfl Try.call61 (c_l01In) (fun v16 w16 p16 => ?_)
   obtain ⟨rfl, c16⟩ := p16
   have zw16 := c16.size
   refine sx_pure rfl rfl rfl (px_notP rfl) ?_
   refine wl_nil (q_n (k15 _ _ ?_))
   refine sx_condP rfl (fun h19 => ?_) (fun h19 => ?_)
   ·
    refine sx_seq fun K17 k17 => sx_region ?_
    refine sa rfl rfl rfl rfl ?_
    refine wl_nil (q_n (k17 _ _ ?_))
    refine sx_retc ?_
    refine q_br (q_r (q_r (q_br (q_r (sx_ret1 Try.results83 rfl ?_)))))
    exact ⟨bFalse (fun h => by have h1 := bd_getD h.2.2.1 (k := k) (by omega); omega), ((c4.t cwl9).t c16)⟩
   ·
    refine sx_skip ?_
    refine q_bn (q_n (k12 _ _ ?_))
    refine sx_region ?_
    refine sx_pure rfl rfl rfl (px_add rfl rfl (by omega)) ?_
    refine sm rfl rfl rfl rfl ?_
    refine wl_nil ?_
    exact fun a ha => ⟨_, by omega, (k + 1), ha.sub (Sub.cons (t := 0) rfl (.cons (t := 9) rfl (.cons (t := 10) rfl (.cons (t := 11) (look_int (t := 11) rfl (by first | omega | simp)) (.nil))))), (cwl9.t c16), rfl, by omega, all_succ hall (by omega)⟩
  ·
   refine sx_exit ?_
   refine q_e (q_e (q_bx (q_n (k6 _ _ ?_))))
   refine sx_seq fun K18 k18 => ?_
   have ek : k = zs.length := by omega
   have hz : ∀ x ∈ zs, 0 ≤ x ∧ x ≤ 1000000000 := all_mem (by rw [← ek]; exact hall)
   refine sx_region ?_
   refine sm rfl rfl rfl rfl ?_
   have f19 := f8.ext cwl9
   refine sx_call rfl rfl Try.call87 (c_l12Sum f19 (by omega) (by assumption)) (fun v20 w20 p20 => ?_)
   obtain ⟨rfl, c20⟩ := p20
   have zw20 := c20.size
   refine sx_pure rfl rfl rfl (px_gt rfl rfl) ?_
   refine sa rfl rfl rfl rfl ?_
   refine wl_nil (q_n (k18 _ _ ?_))
   refine sx_retc ?_
   refine sx_ret1 Try.results83 rfl ?_
   exact ⟨bIff ⟨fun h => ⟨by omega, by omega, hz, h⟩, fun h => h.2.2.2⟩, ((c4.t cwl9).t c20)⟩

theorem c_sFairShare {w : World} {n1 : Bool} {v1 : Value} {lv1 uv1 : Nat} {z1 : List Int} {vw : Value} {lvw uvw : Nat} {ws : List Int} {i : Int} (hv1 : Sl w lv1 uv1 v1 (z1)) (hvw : Sl w lvw uvw vw (ws)) (h63 : z1.length ≤ 4611686018427387904) (h64 : ws.length ≤ 1048576) :
  Ret Try.prog 41 [.agg #[.bool n1, v1], vw, .int .i64 i] w fun v w' => ∃ s t ls us lt ut, v = .tuple #[.agg #[.bool ((fair n1 z1 ws i).1), s, t], .bool ((fair n1 z1 ws i).2.2.2)] ∧ OwnI w' (ls) (us) s intT ((fair n1 z1 ws i).2.1) ∧ OwnI w' (lt) (ut) t intT ((fair n1 z1 ws i).2.2.1) ∧ (w.heap.size ≤ ls ∧ us ≤ w'.heap.size ∧ w.heap.size ≤ lt ∧ ut ≤ w'.heap.size ∧ (us ≤ lt ∨ ut ≤ ls)) ∧ ((fair n1 z1 ws i).2.1.length ≤ 18 ∧ (fair n1 z1 ws i).2.2.1.length ≤ 18) ∧ Chg 0 0 w w' := by
 have hv10 := hv1.fit
 have hvw0 := hvw.fit
 refine sx_enter Try.func41 rfl Try.ntmps41 (Nat.le_of_ble_eq_true rfl) ?_
 refine sx_seq fun K1 k1 => sx_region ?_
 refine sx_box [.bool n1, v1] rfl rfl rfl (fun b2 w3 eb2 sb2 fb2 cb2 => ?_)
 have zw3 := cb2.size
 refine sx_alloc [.bool false, (.slice none 0 0), (.slice none 0 0)] rfl Try.zeroValue53 rfl (fun b4 w5 eb4 sb4 fb4 cb4 => ?_)
 have zw5 := cb4.size
 refine sa rfl rfl rfl rfl ?_
 refine wl_nil (q_n (k1 _ _ ?_))
 refine sx_seq fun K6 k6 => ?_
 refine sx_seq fun K7 k7 => sx_region ?_
 refine sm rfl rfl rfl rfl ?_
 have f8 := hvw0.ext cb2
 have f9 := f8.ext cb4
 refine sx_call rfl rfl Try.call83 (c_sWeightsOk f9 (by omega)) (fun v10 w10 p10 => ?_)
 obtain ⟨rfl, c10⟩ := p10
 have zw10 := c10.size
 refine sx_pure rfl rfl rfl (px_notP rfl) ?_
 refine sm rfl rfl rfl rfl ?_
 refine sx_tmpP (t := 11) rfl (fun h28 => ?_) (fun h28 => ?_)
 ·
  refine sx_guardF rfl rfl rfl rfl rfl rfl ?_
  refine sx_guardF rfl rfl rfl rfl rfl rfl ?_
  refine sx_guardF rfl rfl rfl rfl rfl rfl ?_
  refine sx_guardF rfl rfl rfl rfl rfl rfl ?_
  refine sx_guardF rfl rfl rfl rfl rfl rfl ?_
  refine sx_guardF rfl rfl rfl rfl rfl rfl ?_
  refine sx_pure rfl rfl rfl (px_pick rfl rfl) ?_
  refine sm rfl rfl rfl rfl ?_
  refine sx_guardF rfl rfl rfl rfl rfl rfl ?_
  refine sx_guardF rfl rfl rfl rfl rfl rfl ?_
  refine sx_guardF rfl rfl rfl rfl rfl rfl ?_
  refine sx_pure rfl rfl rfl (px_pick rfl rfl) ?_
  refine wl_nil (q_n (k7 _ _ ?_))
  refine sx_sub (Sub.cons (t := 1) rfl (.cons (t := 2) rfl (.cons (t := 3) rfl (.cons (t := 6) rfl (.cons (t := 7) rfl (.cons (t := 23) rfl (.nil))))))) ?_
  refine sx_condT rfl ?_
  refine sx_seq fun K11 k11 => sx_region ?_
  refine sx_pure rfl rfl rfl (px_build rfl (xbld53x  _)) ?_
  have f13 := fb4.ext c10
  refine sx_store (vs := [.bool false, (.slice none 0 0), (.slice none 0 0)]) rfl rfl f13 rfl Try.sizeOf53 (Nat.le_of_ble_eq_true rfl) (one_cons rfl (one_cons rfl (one_cons rfl one_nil))) (fun w12 sw12 fw12 cw12 => ?_)
  have zw12 := cw12.size
  have gw12 : Blk w12 b4 [.bool false, (.slice none 0 0), (.slice none 0 0)] 53 := fw12
  refine sa rfl rfl rfl rfl ?_
  refine wl_nil (q_n (k11 _ _ ?_))
  refine sx_retc ?_
  refine q_r (sx_ret2 Try.results41 ⟨_, rfl, gw12.loadA (vs := [.bool false, (.slice none 0 0), (.slice none 0 0)]) (look_lit rfl) Try.isAgg53 Try.sizeOf53⟩ rfl ?_)
  rw [fair_no (fun h => by first | exact absurd h.1 (by assumption) | exact absurd h.2.2 (by assumption) | omega | exact absurd h.2.1 (by omega))]
  have q14 := Chg.step (l := 0) (h := 0) (Chg.zero (l := 0) (h := 0) ((cb2.t cb4).t c10)) cw12 (by omega)
  exact ⟨_, _, w.heap.size, w.heap.size, w.heap.size, w.heap.size, rfl, Own.nil _ _ _ _ _, Own.nil _ _ _ _ _, by omega, ⟨by simp [noR], by simp [noR]⟩, q14⟩
 ·
  refine sx_guardT rfl rfl rfl ?_
  refine sm rfl rfl rfl rfl ?_
  refine sx_guardT rfl rfl rfl ?_
  refine sm rfl rfl rfl rfl ?_
  refine sx_guardT rfl rfl rfl ?_
  have f15 := f9.ext c10
  refine sx_pure rfl rfl rfl (px_len rfl Try.underlying22 f15) ?_
  refine sx_guardT rfl rfl rfl ?_
  refine sx_pure rfl rfl rfl (px_sub rfl rfl (by omega)) ?_
  refine sx_guardT rfl rfl rfl ?_
  refine sx_call rfl rfl Try.call61 (c_l01In) (fun v16 w16 p16 => ?_)
  obtain ⟨rfl, c16⟩ := p16
  have zw16 := c16.size
  refine sx_guardT rfl rfl rfl ?_
  refine sx_pure rfl rfl rfl (px_notP rfl) ?_
  refine sx_pure rfl rfl rfl (px_pick rfl rfl) ?_
  refine sm rfl rfl rfl rfl ?_
  refine sx_tmpP (t := 19) rfl (fun h28x1 => ?_) (fun h28x1 => ?_)
  ·
   refine sx_guardF rfl rfl rfl rfl rfl rfl ?_
   refine sx_guardF rfl rfl rfl rfl rfl rfl ?_
   refine sx_guardF rfl rfl rfl rfl rfl rfl ?_
   refine sx_pure rfl rfl rfl (px_pick rfl rfl) ?_
   refine wl_nil (q_n (k7 _ _ ?_))
   refine sx_sub (Sub.cons (t := 1) rfl (.cons (t := 2) rfl (.cons (t := 3) rfl (.cons (t := 6) rfl (.cons (t := 7) rfl (.cons (t := 23) rfl (.nil))))))) ?_
   refine sx_condT rfl ?_
   refine sx_seq fun K17 k17 => sx_region ?_
   refine sx_pure rfl rfl rfl (px_build rfl (xbld53x  _)) ?_
   have f19 := fb4.ext c10
   have f20 := f19.ext c16
   refine sx_store (vs := [.bool false, (.slice none 0 0), (.slice none 0 0)]) rfl rfl f20 rfl Try.sizeOf53 (Nat.le_of_ble_eq_true rfl) (one_cons rfl (one_cons rfl (one_cons rfl one_nil))) (fun w18 sw18 fw18 cw18 => ?_)
   have zw18 := cw18.size
   have gw18 : Blk w18 b4 [.bool false, (.slice none 0 0), (.slice none 0 0)] 53 := fw18
   refine sa rfl rfl rfl rfl ?_
   refine wl_nil (q_n (k17 _ _ ?_))
   refine sx_retc ?_
   refine q_r (sx_ret2 Try.results41 ⟨_, rfl, gw18.loadA (vs := [.bool false, (.slice none 0 0), (.slice none 0 0)]) (look_lit rfl) Try.isAgg53 Try.sizeOf53⟩ rfl ?_)
   rw [fair_no (fun h => by first | exact absurd h.1 (by assumption) | exact absurd h.2.2 (by assumption) | omega | exact absurd h.2.1 (by omega))]
   have q21 := Chg.step (l := 0) (h := 0) (Chg.zero (l := 0) (h := 0) (((cb2.t cb4).t c10).t c16)) cw18 (by omega)
   exact ⟨_, _, w.heap.size, w.heap.size, w.heap.size, w.heap.size, rfl, Own.nil _ _ _ _ _, Own.nil _ _ _ _ _, by omega, ⟨by simp [noR], by simp [noR]⟩, q21⟩
  ·
   refine sx_guardT rfl rfl rfl ?_
   have f22 := fb2.ext cb4
   have f23 := f22.ext c10
   have f24 := f23.ext c16
   refine sx_pure rfl rfl rfl (px_load rfl (f24.loadA (vs := [.bool n1, v1]) (look_lit rfl) Try.isAgg29 Try.sizeOf29)) ?_
   refine sx_guardT rfl rfl rfl ?_
   have f25 := hv10.ext cb2
   have f26 := f25.ext cb4
   have f27 := f26.ext c10
   have f28 := f27.ext c16
   refine sx_call rfl rfl Try.call60 (c_sIntOk f28 (by omega)) (fun v29 w29 p29 => ?_)
   obtain ⟨rfl, c29⟩ := p29
   have zw29 := c29.size
   refine sx_guardT rfl rfl rfl ?_
   refine sx_pure rfl rfl rfl (px_notP rfl) ?_
   refine sx_pure rfl rfl rfl (px_pick rfl rfl) ?_
   refine wl_nil (q_n (k7 _ _ ?_))
   refine sx_sub (Sub.cons (t := 1) rfl (.cons (t := 2) rfl (.cons (t := 3) rfl (.cons (t := 6) rfl (.cons (t := 7) rfl (.cons (t := 23) rfl (.nil))))))) ?_
   refine sx_condP rfl (fun h28x2 => ?_) (fun h28x2 => ?_)
   ·
    refine sx_seq fun K30 k30 => sx_region ?_
    refine sx_pure rfl rfl rfl (px_build rfl (xbld53x  _)) ?_
    have f32 := fb4.ext c10
    have f33 := f32.ext c16
    have f34 := f33.ext c29
    refine sx_store (vs := [.bool false, (.slice none 0 0), (.slice none 0 0)]) rfl rfl f34 rfl Try.sizeOf53 (Nat.le_of_ble_eq_true rfl) (one_cons rfl (one_cons rfl (one_cons rfl one_nil))) (fun w31 sw31 fw31 cw31 => ?_)
    have zw31 := cw31.size
    have gw31 : Blk w31 b4 [.bool false, (.slice none 0 0), (.slice none 0 0)] 53 := fw31
    refine sa rfl rfl rfl rfl ?_
    refine wl_nil (q_n (k30 _ _ ?_))
    refine sx_retc ?_
    refine q_r (sx_ret2 Try.results41 ⟨_, rfl, gw31.loadA (vs := [.bool false, (.slice none 0 0), (.slice none 0 0)]) (look_lit rfl) Try.isAgg53 Try.sizeOf53⟩ rfl ?_)
    rw [fair_no (fun h => by first | exact absurd h.1 (by assumption) | exact absurd h.2.2 (by assumption) | omega | exact absurd h.2.1 (by omega))]
    have q35 := Chg.step (l := 0) (h := 0) (Chg.zero (l := 0) (h := 0) ((((cb2.t cb4).t c10).t c16).t c29)) cw31 (by omega)
    exact ⟨_, _, w.heap.size, w.heap.size, w.heap.size, w.heap.size, rfl, Own.nil _ _ _ _ _, Own.nil _ _ _ _ _, by omega, ⟨by simp [noR], by simp [noR]⟩, q35⟩
   ·
    have hW := Decidable.not_not.1 h28
    have hI := Decidable.not_not.1 h28x2
    have hi2 : 0 ≤ i ∧ i < ws.length := by omega
    obtain ⟨x1, rfl, rfl, hx1⟩ := hI.int
    have hwb := w_bd hW i.toNat
    have hws := w_sum hW
    have hz := hW.2.2.1
    have hw30 := hW.2.1
    have lw1 := len_u64 (n := ws.getD i.toNat 0) (by omega)
    have lw2 := len_u64 (n := ws.sum) (by omega)
    have lw3 := len_mul x1.natAbs (ws.getD i.toNat 0).toNat
    refine sx_skip ?_
    refine q_n (k6 _ _ ?_)
    refine sx_seq fun K36 k36 => ?_
    have f37 := f24.ext c29
    have f38 := f28.ext c29
    have f39 := f15.ext c16
    have f40 := f39.ext c29
    refine dx_region (fun w' => Chg b4 (b4 + 1) w29 w') (by kernel_rfl) (Chg.zero (Chg.drew _)) ?_
    have d41 := Chg.drew w29
    have s41 : Chg b4 (b4 + 1) w29 (World.drew w29) := Chg.zero (Chg.drew _)
    have y41 : (World.drew w29).heap.size = w29.heap.size := rfl
    generalize World.drew w29 = w41 at *
    have zw41 := d41.size
    refine dx_take 0 rfl rfl rfl rfl (by kernel_rfl) (by kernel_rfl) (by kernel_rfl) s41 (fun _ hS => px_field rfl xfld29x0) ?_
    refine dx_take 1 rfl rfl rfl rfl (by kernel_rfl) (by kernel_rfl) (by kernel_rfl) s41 (fun _ hS => px_load rfl ((f37.chg hS (by omega)).load1 rfl Try.isAgg4)) ?_
    refine dx_take 2 rfl rfl rfl rfl (by kernel_rfl) (by kernel_rfl) (by kernel_rfl) s41 (fun _ hS => px_field rfl xfld29x1) ?_
    refine dx_take 3 rfl rfl rfl rfl (by kernel_rfl) (by kernel_rfl) (by kernel_rfl) s41 (fun _ hS => px_load rfl ((f37.chg hS (by omega)).load1 rfl Try.isAgg22)) ?_
    refine dx_take 4 rfl rfl rfl rfl (by kernel_rfl) (by kernel_rfl) (by kernel_rfl) s41 (fun _ hS => px_move rfl) ?_
    refine dx_take 5 rfl rfl rfl rfl (by kernel_rfl) (by kernel_rfl) (by kernel_rfl) s41 (fun _ hS => px_move rfl) ?_
    refine dx_take 6 rfl rfl rfl rfl (by kernel_rfl) (by kernel_rfl) (by kernel_rfl) s41 (fun _ hS => px_index1 (j := i.toNat) rfl rfl (by omega) Try.underlying22 Try.sizeOf3 ((f40).chg hS (by omega)) (by omega)) ?_
    refine dx_take 7 rfl rfl rfl rfl (by kernel_rfl) (by kernel_rfl) (by kernel_rfl) s41 (fun _ hS => px_load rfl (((f40).chg hS (by omega)).load1 (at_int (by omega)) Try.isAgg3)) ?_
    refine dx_take 10 rfl rfl rfl rfl (by kernel_rfl) (by kernel_rfl) (by kernel_rfl) s41 (fun _ hS => px_move rfl) ?_
    refine dx_eff 8 rfl (by kernel_rfl) ?_
    refine sx_call rfl rfl Try.call86 (c_sNatOf (by omega)) (fun v42 w42 p42 => ?_)
    obtain ⟨s42, rfl, os_42, c42⟩ := p42
    have zw42 := c42.size
    have s43 : Chg b4 (b4 + 1) w29 w42 := (Chg.zero (l := b4) (h := (b4 + 1)) (d41.t c42))
    refine wl_nil ?_
    refine dx_next s43 ?_
    refine dx_eff 9 rfl (by kernel_rfl) ?_
    have f44 := f38.ext d41
    have f45 := f44.ext c42
    refine sx_call rfl rfl Try.call85 (c_l02Mul f45 os_42.sv (by omega) (by omega)) (fun v46 w46 p46 => ?_)
    obtain ⟨s46, rfl, os_46, c46⟩ := p46
    have zw46 := c46.size
    have s47 : Chg b4 (b4 + 1) w29 w46 := (Chg.zero (l := b4) (h := (b4 + 1)) ((d41.t c42).t c46))
    refine wl_nil ?_
    refine dx_next s47 ?_
    refine dx_eff 11 rfl (by kernel_rfl) ?_
    have f48 := f40.ext d41
    have f49 := f48.ext c42
    have f50 := f49.ext c46
    refine sx_call rfl rfl Try.call87 (c_l12Sum f50 (by omega) (by assumption)) (fun v51 w51 p51 => ?_)
    obtain ⟨rfl, c51⟩ := p51
    have zw51 := c51.size
    have s52 : Chg b4 (b4 + 1) w29 w51 := (Chg.zero (l := b4) (h := (b4 + 1)) (((d41.t c42).t c46).t c51))
    refine wl_nil ?_
    refine dx_next s52 ?_
    refine dx_eff 12 rfl (by kernel_rfl) ?_
    refine sx_call rfl rfl Try.call86 (c_sNatOf (by omega)) (fun v53 w53 p53 => ?_)
    obtain ⟨s53, rfl, os_53, c53⟩ := p53
    have zw53 := c53.size
    have s54 : Chg b4 (b4 + 1) w29 w53 := (Chg.zero (l := b4) (h := (b4 + 1)) ((((d41.t c42).t c46).t c51).t c53))
    refine wl_nil ?_
    refine dx_next s54 ?_
    refine dx_eff 13 rfl (by kernel_rfl) ?_
    have f55 := os_46.ext c51
    have f56 := f55.ext c53
    refine sx_call rfl rfl Try.call84 (c_l05Low f56 os_53.sv (by omega) (by omega)) (fun v57 w57 p57 => ?_)
    obtain ⟨s57, t57, ls57, us57, lt57, ut57, rfl, os_57, ot_57, hd57, hl57, c57⟩ := p57
    have zw57 := c57.size
    have s58 : Chg b4 (b4 + 1) w29 w57 := (Chg.zero (l := b4) (h := (b4 + 1)) (((((d41.t c42).t c46).t c51).t c53).t c57))
    refine wl_nil ?_
    refine dx_next s58 ?_
    refine dx_take 14 rfl rfl rfl rfl (by kernel_rfl) (by kernel_rfl) (by kernel_rfl) s58 (fun _ hS => px_extract (vs := [.agg #[.bool ((rR (sgI (ng x1) (x1.natAbs * ((((ws).getD i.toNat 0)).toNat))) ((((ws).sum)).toNat)).1), s57, t57], .bool ((rR (sgI (ng x1) (x1.natAbs * ((((ws).getD i.toNat 0)).toNat))) ((((ws).sum)).toNat)).2.2.2)]) rfl rfl) ?_
    refine dx_take 15 rfl rfl rfl rfl (by kernel_rfl) (by kernel_rfl) (by kernel_rfl) s58 (fun _ hS => px_extract (vs := [.agg #[.bool ((rR (sgI (ng x1) (x1.natAbs * ((((ws).getD i.toNat 0)).toNat))) ((((ws).sum)).toNat)).1), s57, t57], .bool ((rR (sgI (ng x1) (x1.natAbs * ((((ws).getD i.toNat 0)).toNat))) ((((ws).sum)).toNat)).2.2.2)]) rfl rfl) ?_
    refine dx_eff 16 rfl (by kernel_rfl) ?_
    have f60 := fb4.ext c10
    have f61 := f60.ext c16
    have f62 := f61.ext c29
    have f63 := f62.ext d41
    have f64 := f63.ext c42
    have f65 := f64.ext c46
    have f66 := f65.ext c51
    have f67 := f66.ext c53
    have f68 := f67.ext c57
    refine sx_store (vs := [.bool ((rR (sgI (ng x1) (x1.natAbs * ((((ws).getD i.toNat 0)).toNat))) ((((ws).sum)).toNat)).1), s57, t57]) rfl rfl f68 rfl Try.sizeOf53 (Nat.le_of_ble_eq_true rfl) (one_cons rfl (one_cons os_57.one (one_cons ot_57.one one_nil))) (fun w59 sw59 fw59 cw59 => ?_)
    have zw59 := cw59.size
    have gw59 : Blk w59 b4 [.bool ((rR (sgI (ng x1) (x1.natAbs * ((((ws).getD i.toNat 0)).toNat))) ((((ws).sum)).toNat)).1), s57, t57] 53 := fw59
    have q70 := Chg.step (l := b4) (h := (b4 + 1)) (Chg.zero (l := b4) (h := (b4 + 1)) (((((d41.t c42).t c46).t c51).t c53).t c57)) cw59 (by omega)
    have s69 : Chg b4 (b4 + 1) w29 w59 := q70
    refine wl_nil ?_
    refine dx_next s69 ?_
    refine dx_take 17 rfl rfl rfl rfl (by kernel_rfl) (by kernel_rfl) (by kernel_rfl) s69 (fun _ hS => px_assign rfl) ?_
    refine dx_done (by kernel_rfl) ?_
    refine q_n (k36 _ _ ?_)
    refine sx_sub (Sub.cons (t := 6) rfl (.cons (t := 7) rfl (.nil))) ?_
    refine sx_retc ?_
    refine sx_ret2 Try.results41 ⟨_, rfl, gw59.loadA (vs := [.bool ((rR (sgI (ng x1) (x1.natAbs * ((((ws).getD i.toNat 0)).toNat))) ((((ws).sum)).toNat)).1), s57, t57]) (look_lit rfl) Try.isAgg53 Try.sizeOf53⟩ rfl ?_
    have hrl := fair_len (n := ng x1) (z := dg x1.natAbs) (ws := ws) (i := i)
    rw [fair_ok ⟨hW, hi2, hI⟩] at hrl ⊢
    have q71 := Chg.step (l := 0) (h := 0) (Chg.zero (l := 0) (h := 0) ((((((((((cb2.t cb4).t c10).t c16).t c29).t d41).t c42).t c46).t c51).t c53).t c57)) cw59 (by omega)
    have f72 := os_57.chg cw59 (by omega)
    have f73 := ot_57.chg cw59 (by omega)
    exact ⟨_, _, _, _, _, _, rfl, f72, f73, by omega, hrl, q71⟩

theorem c_iWeightsOk {w : World} {va : Value} {lva uva : Nat} {zs : List Int} (hva : Sl w lva uva va (zs)) (h63 : zs.length ≤ 1048576) :
  Ret Try.prog 88 [va] w fun v w' => v = .bool (decide (WOk zs)) ∧ Chg 0 0 w w' := by
 have hva0 := hva.fit
 refine sx_enter Try.func88 rfl Try.ntmps88 (Nat.le_of_ble_eq_true rfl) ?_
 refine sx_seq fun K1 k1 => sx_region ?_
 refine sa rfl rfl rfl rfl ?_
 refine wl_nil (q_n (k1 _ _ ?_))
 refine sx_seq fun K2 k2 => ?_
 refine sx_seq fun K3 k3 => sx_region ?_
 refine sm rfl rfl rfl rfl ?_
 refine sx_pure rfl rfl rfl (px_len rfl Try.underlying22 hva0) ?_
 refine sx_pure rfl rfl rfl (px_lt rfl rfl) ?_
 refine sm rfl rfl rfl rfl ?_
 refine sx_tmpP (t := 9) rfl (fun h16 => ?_) (fun h16 => ?_)
 ·
  refine sx_guardF rfl rfl rfl rfl rfl rfl ?_
  refine sx_guardF rfl rfl rfl rfl rfl rfl ?_
  refine sx_guardF rfl rfl rfl rfl rfl rfl ?_
  refine sx_pure rfl rfl rfl (px_pick rfl rfl) ?_
  refine wl_nil (q_n (k3 _ _ ?_))
  refine sx_condT rfl ?_
  refine sx_seq fun K4 k4 => sx_region ?_
  refine sa rfl rfl rfl rfl ?_
  refine wl_nil (q_n (k4 _ _ ?_))
  refine sx_retc ?_
  refine q_r (sx_ret1 Try.results88 rfl ?_)
  exact ⟨bFalse (fun h => by have h1 := h.1; have h2 := h.2.1; omega), (Chg.refl 0 0 _)⟩
 ·
  refine sx_guardT rfl rfl rfl ?_
  refine sm rfl rfl rfl rfl ?_
  refine sx_guardT rfl rfl rfl ?_
  refine sx_pure rfl rfl rfl (px_len rfl Try.underlying22 hva0) ?_
  refine sx_guardT rfl rfl rfl ?_
  refine sx_pure rfl rfl rfl (px_gt rfl rfl) ?_
  refine sx_pure rfl rfl rfl (px_pick rfl rfl) ?_
  refine wl_nil (q_n (k3 _ _ ?_))
  refine sx_condP rfl (fun h16x1 => ?_) (fun h16x1 => ?_)
  ·
   refine sx_seq fun K5 k5 => sx_region ?_
   refine sa rfl rfl rfl rfl ?_
   refine wl_nil (q_n (k5 _ _ ?_))
   refine sx_retc ?_
   refine q_r (sx_ret1 Try.results88 rfl ?_)
   exact ⟨bFalse (fun h => by have h1 := h.1; have h2 := h.2.1; omega), (Chg.refl 0 0 _)⟩
  ·
   refine sx_skip ?_
   refine q_n (k2 _ _ ?_)
   refine sx_seq fun K6 k6 => sx_region ?_
   refine sa rfl rfl rfl rfl ?_
   refine wl_nil (q_n (k6 _ _ ?_))
   refine sx_seq fun K7 k7 => ?_
   refine sx_seq fun K8 k8 => sx_region ?_
   refine sm rfl rfl rfl rfl ?_
   refine sx_pure rfl rfl rfl (px_len rfl Try.underlying22 hva0) ?_
   refine sm rfl rfl rfl rfl ?_
   refine wl_nil (q_n (k8 _ _ ?_))
   refine sx_block ?_
   refine sx_loop (fun mm aa w' => ∃ (k : Nat), Agr 32 [(3, .int .i64 ((zs.take k).sum)), (14, va), (15, .int .i64 ↑zs.length), (16, .int .i64 ↑k)] aa ∧ Chg 0 0 w w' ∧ (mm = zs.length - k) ∧ (k ≤ zs.length) ∧ (∀ i, i < k → 0 ≤ zs.getD i 0 ∧ zs.getD i 0 ≤ 1000000000) ∧ (0 ≤ (zs.take k).sum ∧ (zs.take k).sum ≤ k * 1000000000)) (_) (fun a ha => ⟨0, ha.sub (Sub.cons (t := 3) (look_int (t := 3) rfl (by first | omega | simp)) (.cons (t := 14) rfl (.cons (t := 15) (look_int (t := 15) rfl (by first | omega | simp)) (.cons (t := 16) (look_int (t := 16) rfl (by first | omega | simp)) (.nil))))), Chg.refl _ _ _, rfl, by omega, fun i h => by omega, by simp⟩) ?_
   rintro mm aa wl9 ⟨k, hAwl9, cwl9, hm, hk, hall, hs⟩
   refine (show cw Try.prog 32 _ _ _ wl9 from ?_) aa hAwl9
   clear hAwl9
   have zwl9 := cwl9.size
   refine sx_seq fun K10 k10 => sx_region ?_
   refine sx_pure rfl rfl rfl (px_lt rfl rfl) ?_
   refine wl_nil (q_n (k10 _ _ ?_))
   refine sx_seq fun K11 k11 => ?_
   refine sx_condP rfl (fun h20 => ?_) (fun h20 => ?_)
   ·
    refine sx_skip ?_
    refine q_n (k11 _ _ ?_)
    refine sx_seq fun K12 k12 => ?_
    refine sx_block ?_
    refine sx_seq fun K13 k13 => sx_region ?_
    have f14 := hva0.ext cwl9
    refine sx_pure rfl rfl rfl (px_index1 (j := k) rfl rfl (by omega) Try.underlying22 Try.sizeOf3 f14 (by omega)) ?_
    refine sx_pure rfl rfl rfl (px_load rfl (f14.load1 (at_int (by omega)) Try.isAgg3)) ?_
    refine sa rfl rfl rfl rfl ?_
    refine wl_nil (q_n (k13 _ _ ?_))
    refine sx_seq fun K15 k15 => ?_
    refine sx_seq fun K16 k16 => sx_region ?_
    refine sm rfl rfl rfl rfl ?_
    refine sx_pure rfl rfl rfl (px_lt rfl rfl) ?_
    refine sm rfl rfl rfl rfl ?_
    refine sx_tmpP (t := 22) rfl (fun h21 => ?_) (fun h21 => ?_)
    ·
     refine sx_guardF rfl rfl rfl rfl rfl rfl ?_
     refine sx_guardF rfl rfl rfl rfl rfl rfl ?_
     refine sx_pure rfl rfl rfl (px_pick rfl rfl) ?_
     refine wl_nil (q_n (k16 _ _ ?_))
     refine sx_condT rfl ?_
     refine sx_seq fun K17 k17 => sx_region ?_
     refine sa rfl rfl rfl rfl ?_
     refine wl_nil (q_n (k17 _ _ ?_))
     refine sx_sub (Sub.cons (t := 2) rfl (.cons (t := 3) rfl (.cons (t := 5) rfl (.cons (t := 14) rfl (.cons (t := 15) rfl (.cons (t := 16) rfl (.nil))))))) ?_
     refine sx_retc ?_
     refine q_r (q_br (q_r (q_r (q_br (q_r (sx_ret1 Try.results88 rfl ?_))))))
     exact ⟨bFalse (fun h => by have h1 := bd_getD h.2.2.1 (k := k) (by omega); omega), cwl9⟩
    ·
     refine sx_guardT rfl rfl rfl ?_
     refine sm rfl rfl rfl rfl ?_
     refine sx_guardT rfl rfl rfl ?_
     refine sx_pure rfl rfl rfl (px_gt rfl rfl) ?_
     refine sx_pure rfl rfl rfl (px_pick rfl rfl) ?_
     refine wl_nil (q_n (k16 _ _ ?_))
     refine sx_condP rfl (fun h21x1 => ?_) (fun h21x1 => ?_)
     ·
      refine sx_seq fun K18 k18 => sx_region ?_
      refine sa rfl rfl rfl rfl ?_
      refine wl_nil (q_n (k18 _ _ ?_))
      refine sx_sub (Sub.cons (t := 2) rfl (.cons (t := 3) rfl (.cons (t := 5) rfl (.cons (t := 14) rfl (.cons (t := 15) rfl (.cons (t := 16) rfl (.nil))))))) ?_
      refine sx_retc ?_
      refine q_r (q_br (q_r (q_r (q_br (q_r (sx_ret1 Try.results88 rfl ?_))))))
      exact ⟨bFalse (fun h => by have h1 := bd_getD h.2.2.1 (k := k) (by omega); omega), cwl9⟩
     ·
      refine sx_skip ?_
      refine q_n (k15 _ _ ?_)
      refine sx_region ?_
      refine sm rfl rfl rfl rfl ?_
      refine sm rfl rfl rfl rfl ?_
      refine sx_pure rfl rfl rfl (px_add rfl rfl (by omega)) ?_
      refine sa rfl rfl rfl rfl ?_
      refine wl_nil ?_
      refine q_bn (q_n (k12 _ _ ?_))
      refine sx_sub (Sub.cons (t := 3) rfl (.cons (t := 14) rfl (.cons (t := 15) rfl (.cons (t := 16) rfl (.nil))))) ?_
      refine sx_region ?_
      refine sx_pure rfl rfl rfl (px_add rfl rfl (by omega)) ?_
      refine sm rfl rfl rfl rfl ?_
      refine wl_nil ?_
      have hs1 := sum_take_succ (zs := zs) (k := k) (by omega)
      exact fun a ha => ⟨_, by omega, (k + 1), ha.sub (Sub.cons (t := 3) (look_int (t := 3) rfl (by first | omega | simp)) (.cons (t := 14) rfl (.cons (t := 15) rfl (.cons (t := 16) (look_int (t := 16) rfl (by first | omega | simp)) (.nil))))), cwl9, rfl, by omega, all_succ hall (by omega), by omega⟩
   ·
    refine sx_exit ?_
    refine q_e (q_e (q_bx (q_n (k7 _ _ ?_))))
    refine sx_seq fun K19 k19 => sx_region ?_
    refine sm rfl rfl rfl rfl ?_
    refine sx_pure rfl rfl rfl (px_gt rfl rfl) ?_
    refine sa rfl rfl rfl rfl ?_
    refine wl_nil (q_n (k19 _ _ ?_))
    refine sx_retc ?_
    refine sx_ret1 Try.results88 rfl ?_
    have ek : k = zs.length := by omega
    have hz : ∀ x ∈ zs, 0 ≤ x ∧ x ≤ 1000000000 := all_mem (by rw [← ek]; exact hall)
    rw [ek, List.take_length]
    exact ⟨bIff ⟨fun h => ⟨by omega, by omega, hz, h⟩, fun h => h.2.2.2⟩, cwl9⟩

theorem c_sumInts {w : World} {va : Value} {lva uva : Nat} {zs : List Int} (hva : Sl w lva uva va (zs)) (h63 : zs.length ≤ 30) (hz : ∀ x ∈ zs, 0 ≤ x ∧ x ≤ 1000000000) :
  Ret Try.prog 93 [va] w fun v w' => v = .int .i64 ((zs).sum) ∧ Chg 0 0 w w' := by
 have hva0 := hva.fit
 refine sx_enter Try.func93 rfl Try.ntmps93 (Nat.le_of_ble_eq_true rfl) ?_
 refine sx_seq fun K1 k1 => sx_region ?_
 refine sa rfl rfl rfl rfl ?_
 refine wl_nil (q_n (k1 _ _ ?_))
 refine sx_seq fun K2 k2 => sx_region ?_
 refine sa rfl rfl rfl rfl ?_
 refine wl_nil (q_n (k2 _ _ ?_))
 refine sx_seq fun K3 k3 => ?_
 refine sx_seq fun K4 k4 => sx_region ?_
 refine sm rfl rfl rfl rfl ?_
 refine sx_pure rfl rfl rfl (px_len rfl Try.underlying22 hva0) ?_
 refine sm rfl rfl rfl rfl ?_
 refine wl_nil (q_n (k4 _ _ ?_))
 refine sx_block ?_
 refine sx_loop (fun mm aa w' => ∃ (k : Nat), Agr 17 [(3, .int .i64 ((zs.take k).sum)), (6, va), (7, .int .i64 ↑zs.length), (8, .int .i64 ↑k)] aa ∧ Chg 0 0 w w' ∧ (mm = zs.length - k) ∧ (k ≤ zs.length)) (_) (fun a ha => ⟨0, ha.sub (Sub.cons (t := 3) (look_int (t := 3) rfl (by first | omega | simp)) (.cons (t := 6) rfl (.cons (t := 7) (look_int (t := 7) rfl (by first | omega | simp)) (.cons (t := 8) (look_int (t := 8) rfl (by first | omega | simp)) (.nil))))), Chg.refl _ _ _, rfl, by omega⟩) ?_
 rintro mm aa wl5 ⟨k, hAwl5, cwl5, hm, hk⟩
 refine (show cw Try.prog 17 _ _ _ wl5 from ?_) aa hAwl5
 clear hAwl5
 have zwl5 := cwl5.size
 have hs := sum_bd hz k hk
 refine sx_seq fun K6 k6 => sx_region ?_
 refine sx_pure rfl rfl rfl (px_lt rfl rfl) ?_
 refine wl_nil (q_n (k6 _ _ ?_))
 refine sx_seq fun K7 k7 => ?_
 refine sx_condP rfl (fun h32 => ?_) (fun h32 => ?_)
 ·
  refine sx_skip ?_
  refine q_n (k7 _ _ ?_)
  refine sx_seq fun K8 k8 => ?_
  refine sx_block ?_
  refine sx_seq fun K9 k9 => sx_region ?_
  have f10 := hva0.ext cwl5
  refine sx_pure rfl rfl rfl (px_index1 (j := k) rfl rfl (by omega) Try.underlying22 Try.sizeOf3 f10 (by omega)) ?_
  refine sx_pure rfl rfl rfl (px_load rfl (f10.load1 (at_int (by omega)) Try.isAgg3)) ?_
  refine sa rfl rfl rfl rfl ?_
  refine wl_nil (q_n (k9 _ _ ?_))
  refine sx_region ?_
  refine sm rfl rfl rfl rfl ?_
  refine sm rfl rfl rfl rfl ?_
  refine sx_pure rfl rfl rfl (px_add rfl rfl (by first | omega | (have hb := bd_getD hz (k := k) (by omega); omega))) ?_
  refine sa rfl rfl rfl rfl ?_
  refine wl_nil ?_
  refine q_bn (q_n (k8 _ _ ?_))
  refine sx_region ?_
  refine sx_pure rfl rfl rfl (px_add rfl rfl (by first | omega | (have hb := bd_getD hz (k := k) (by omega); omega))) ?_
  refine sm rfl rfl rfl rfl ?_
  refine wl_nil ?_
  have hs1 := sum_take_succ (zs := zs) (k := k) (by omega)
  exact fun a ha => ⟨_, by omega, (k + 1), ha.sub (Sub.cons (t := 3) (look_int (t := 3) rfl (by first | omega | simp)) (.cons (t := 6) rfl (.cons (t := 7) rfl (.cons (t := 8) (look_int (t := 8) rfl (by first | omega | simp)) (.nil))))), cwl5, rfl, by omega⟩
 ·
  refine sx_exit ?_
  refine q_e (q_e (q_bx (q_n (k3 _ _ ?_))))
  refine sx_seq fun K11 k11 => sx_region ?_
  refine sm rfl rfl rfl rfl ?_
  refine sa rfl rfl rfl rfl ?_
  refine wl_nil (q_n (k11 _ _ ?_))
  refine sx_retc ?_
  refine sx_ret1 Try.results93 rfl ?_
  have e1 : k = zs.length := by omega
  rw [e1, List.take_length]
  exact ⟨rfl, cwl5⟩

theorem c_iFairShare {w : World} {n1 : Bool} {v1 : Value} {lv1 uv1 : Nat} {z1 : List Int} {vw : Value} {lvw uvw : Nat} {ws : List Int} {i : Int} (hv1 : Sl w lv1 uv1 v1 (z1)) (hvw : Sl w lvw uvw vw (ws)) (h63 : z1.length ≤ 4611686018427387904) (h64 : ws.length ≤ 1048576) :
  Ret Try.prog 44 [.agg #[.bool n1, v1], vw, .int .i64 i] w fun v w' => ∃ s t ls us lt ut, v = .tuple #[.agg #[.bool ((fair n1 z1 ws i).1), s, t], .bool ((fair n1 z1 ws i).2.2.2)] ∧ OwnI w' (ls) (us) s intT ((fair n1 z1 ws i).2.1) ∧ OwnI w' (lt) (ut) t intT ((fair n1 z1 ws i).2.2.1) ∧ (w.heap.size ≤ ls ∧ us ≤ w'.heap.size ∧ w.heap.size ≤ lt ∧ ut ≤ w'.heap.size ∧ (us ≤ lt ∨ ut ≤ ls)) ∧ ((fair n1 z1 ws i).2.1.length ≤ 18 ∧ (fair n1 z1 ws i).2.2.1.length ≤ 18) ∧ Chg 0 0 w w' := by
 have hv10 := hv1.fit
 have hvw0 := hvw.fit
 refine sx_enter Try.func44 rfl Try.ntmps44 (Nat.le_of_ble_eq_true rfl) ?_
 refine sx_seq fun K1 k1 => sx_region ?_
 refine sx_box [.bool n1, v1] rfl rfl rfl (fun b2 w3 eb2 sb2 fb2 cb2 => ?_)
 have zw3 := cb2.size
 refine sx_alloc [.bool false, (.slice none 0 0), (.slice none 0 0)] rfl Try.zeroValue53 rfl (fun b4 w5 eb4 sb4 fb4 cb4 => ?_)
 have zw5 := cb4.size
 refine sa rfl rfl rfl rfl ?_
 refine wl_nil (q_n (k1 _ _ ?_))
 refine sx_seq fun K6 k6 => ?_
 refine sx_seq fun K7 k7 => sx_region ?_
 refine sm rfl rfl rfl rfl ?_
 have f8 := hvw0.ext cb2
 have f9 := f8.ext cb4
 refine sx_call rfl rfl Try.call88 (c_iWeightsOk f9 (by omega)) (fun v10 w10 p10 => ?_)
 obtain ⟨rfl, c10⟩ := p10
 have zw10 := c10.size
 refine sx_pure rfl rfl rfl (px_notP rfl) ?_
 refine sm rfl rfl rfl rfl ?_
 refine sx_tmpP (t := 11) rfl (fun h40 => ?_) (fun h40 => ?_)
 ·
  refine sx_guardF rfl rfl rfl rfl rfl rfl ?_
  refine sx_guardF rfl rfl rfl rfl rfl rfl ?_
  refine sx_pure rfl rfl rfl (px_pick rfl rfl) ?_
  refine sm rfl rfl rfl rfl ?_
  refine sx_guardF rfl rfl rfl rfl rfl rfl ?_
  refine sx_guardF rfl rfl rfl rfl rfl rfl ?_
  refine sx_guardF rfl rfl rfl rfl rfl rfl ?_
  refine sx_guardF rfl rfl rfl rfl rfl rfl ?_
  refine sx_pure rfl rfl rfl (px_pick rfl rfl) ?_
  refine sm rfl rfl rfl rfl ?_
  refine sx_guardF rfl rfl rfl rfl rfl rfl ?_
  refine sx_guardF rfl rfl rfl rfl rfl rfl ?_
  refine sx_guardF rfl rfl rfl rfl rfl rfl ?_
  refine sx_pure rfl rfl rfl (px_pick rfl rfl) ?_
  refine wl_nil (q_n (k7 _ _ ?_))
  refine sx_sub (Sub.cons (t := 1) rfl (.cons (t := 2) rfl (.cons (t := 3) rfl (.cons (t := 6) rfl (.cons (t := 7) rfl (.cons (t := 25) rfl (.nil))))))) ?_
  refine sx_condT rfl ?_
  refine sx_seq fun K11 k11 => sx_region ?_
  refine sx_pure rfl rfl rfl (px_build rfl (xbld53x  _)) ?_
  have f13 := fb4.ext c10
  refine sx_store (vs := [.bool false, (.slice none 0 0), (.slice none 0 0)]) rfl rfl f13 rfl Try.sizeOf53 (Nat.le_of_ble_eq_true rfl) (one_cons rfl (one_cons rfl (one_cons rfl one_nil))) (fun w12 sw12 fw12 cw12 => ?_)
  have zw12 := cw12.size
  have gw12 : Blk w12 b4 [.bool false, (.slice none 0 0), (.slice none 0 0)] 53 := fw12
  refine sa rfl rfl rfl rfl ?_
  refine wl_nil (q_n (k11 _ _ ?_))
  refine sx_retc ?_
  refine q_r (sx_ret2 Try.results44 ⟨_, rfl, gw12.loadA (vs := [.bool false, (.slice none 0 0), (.slice none 0 0)]) (look_lit rfl) Try.isAgg53 Try.sizeOf53⟩ rfl ?_)
  rw [fair_no (fun h => by first | exact absurd h.1 (by assumption) | exact absurd h.2.2 (by assumption) | omega | exact absurd h.2.1 (by omega))]
  have q14 := Chg.step (l := 0) (h := 0) (Chg.zero (l := 0) (h := 0) ((cb2.t cb4).t c10)) cw12 (by omega)
  exact ⟨_, _, w.heap.size, w.heap.size, w.heap.size, w.heap.size, rfl, Own.nil _ _ _ _ _, Own.nil _ _ _ _ _, by omega, ⟨by simp [noR], by simp [noR]⟩, q14⟩
 ·
  refine sx_guardT rfl rfl rfl ?_
  refine sm rfl rfl rfl rfl ?_
  refine sx_guardT rfl rfl rfl ?_
  refine sx_pure rfl rfl rfl (px_lt rfl rfl) ?_
  refine sx_pure rfl rfl rfl (px_pick rfl rfl) ?_
  refine sm rfl rfl rfl rfl ?_
  refine sx_tmpP (t := 15) rfl (fun h40x1 => ?_) (fun h40x1 => ?_)
  ·
   refine sx_guardF rfl rfl rfl rfl rfl rfl ?_
   refine sx_guardF rfl rfl rfl rfl rfl rfl ?_
   refine sx_guardF rfl rfl rfl rfl rfl rfl ?_
   refine sx_guardF rfl rfl rfl rfl rfl rfl ?_
   refine sx_pure rfl rfl rfl (px_pick rfl rfl) ?_
   refine sm rfl rfl rfl rfl ?_
   refine sx_guardF rfl rfl rfl rfl rfl rfl ?_
   refine sx_guardF rfl rfl rfl rfl rfl rfl ?_
   refine sx_guardF rfl rfl rfl rfl rfl rfl ?_
   refine sx_pure rfl rfl rfl (px_pick rfl rfl) ?_
   refine wl_nil (q_n (k7 _ _ ?_))
   refine sx_sub (Sub.cons (t := 1) rfl (.cons (t := 2) rfl (.cons (t := 3) rfl (.cons (t := 6) rfl (.cons (t := 7) rfl (.cons (t := 25) rfl (.nil))))))) ?_
   refine sx_condT rfl ?_
   refine sx_seq fun K15 k15 => sx_region ?_
   refine sx_pure rfl rfl rfl (px_build rfl (xbld53x  _)) ?_
   have f17 := fb4.ext c10
   refine sx_store (vs := [.bool false, (.slice none 0 0), (.slice none 0 0)]) rfl rfl f17 rfl Try.sizeOf53 (Nat.le_of_ble_eq_true rfl) (one_cons rfl (one_cons rfl (one_cons rfl one_nil))) (fun w16 sw16 fw16 cw16 => ?_)
   have zw16 := cw16.size
   have gw16 : Blk w16 b4 [.bool false, (.slice none 0 0), (.slice none 0 0)] 53 := fw16
   refine sa rfl rfl rfl rfl ?_
   refine wl_nil (q_n (k15 _ _ ?_))
   refine sx_retc ?_
   refine q_r (sx_ret2 Try.results44 ⟨_, rfl, gw16.loadA (vs := [.bool false, (.slice none 0 0), (.slice none 0 0)]) (look_lit rfl) Try.isAgg53 Try.sizeOf53⟩ rfl ?_)
   rw [fair_no (fun h => by first | exact absurd h.1 (by assumption) | exact absurd h.2.2 (by assumption) | omega | exact absurd h.2.1 (by omega))]
   have q18 := Chg.step (l := 0) (h := 0) (Chg.zero (l := 0) (h := 0) ((cb2.t cb4).t c10)) cw16 (by omega)
   exact ⟨_, _, w.heap.size, w.heap.size, w.heap.size, w.heap.size, rfl, Own.nil _ _ _ _ _, Own.nil _ _ _ _ _, by omega, ⟨by simp [noR], by simp [noR]⟩, q18⟩
  ·
   refine sx_guardT rfl rfl rfl ?_
   refine sm rfl rfl rfl rfl ?_
   refine sx_guardT rfl rfl rfl ?_
   refine sm rfl rfl rfl rfl ?_
   refine sx_guardT rfl rfl rfl ?_
   have f19 := f9.ext c10
   refine sx_pure rfl rfl rfl (px_len rfl Try.underlying22 f19) ?_
   refine sx_guardT rfl rfl rfl ?_
   refine sx_pure rfl rfl rfl (px_ge rfl rfl) ?_
   refine sx_pure rfl rfl rfl (px_pick rfl rfl) ?_
   refine sm rfl rfl rfl rfl ?_
   refine sx_tmpP (t := 21) rfl (fun h40x2 => ?_) (fun h40x2 => ?_)
   ·
    refine sx_guardF rfl rfl rfl rfl rfl rfl ?_
    refine sx_guardF rfl rfl rfl rfl rfl rfl ?_
    refine sx_guardF rfl rfl rfl rfl rfl rfl ?_
    refine sx_pure rfl rfl rfl (px_pick rfl rfl) ?_
    refine wl_nil (q_n (k7 _ _ ?_))
    refine sx_sub (Sub.cons (t := 1) rfl (.cons (t := 2) rfl (.cons (t := 3) rfl (.cons (t := 6) rfl (.cons (t := 7) rfl (.cons (t := 25) rfl (.nil))))))) ?_
    refine sx_condT rfl ?_
    refine sx_seq fun K20 k20 => sx_region ?_
    refine sx_pure rfl rfl rfl (px_build rfl (xbld53x  _)) ?_
    have f22 := fb4.ext c10
    refine sx_store (vs := [.bool false, (.slice none 0 0), (.slice none 0 0)]) rfl rfl f22 rfl Try.sizeOf53 (Nat.le_of_ble_eq_true rfl) (one_cons rfl (one_cons rfl (one_cons rfl one_nil))) (fun w21 sw21 fw21 cw21 => ?_)
    have zw21 := cw21.size
    have gw21 : Blk w21 b4 [.bool false, (.slice none 0 0), (.slice none 0 0)] 53 := fw21
    refine sa rfl rfl rfl rfl ?_
    refine wl_nil (q_n (k20 _ _ ?_))
    refine sx_retc ?_
    refine q_r (sx_ret2 Try.results44 ⟨_, rfl, gw21.loadA (vs := [.bool false, (.slice none 0 0), (.slice none 0 0)]) (look_lit rfl) Try.isAgg53 Try.sizeOf53⟩ rfl ?_)
    rw [fair_no (fun h => by first | exact absurd h.1 (by assumption) | exact absurd h.2.2 (by assumption) | omega | exact absurd h.2.1 (by omega))]
    have q23 := Chg.step (l := 0) (h := 0) (Chg.zero (l := 0) (h := 0) ((cb2.t cb4).t c10)) cw21 (by omega)
    exact ⟨_, _, w.heap.size, w.heap.size, w.heap.size, w.heap.size, rfl, Own.nil _ _ _ _ _, Own.nil _ _ _ _ _, by omega, ⟨by simp [noR], by simp [noR]⟩, q23⟩
   ·
    refine sx_guardT rfl rfl rfl ?_
    have f24 := fb2.ext cb4
    have f25 := f24.ext c10
    refine sx_pure rfl rfl rfl (px_load rfl (f25.loadA (vs := [.bool n1, v1]) (look_lit rfl) Try.isAgg29 Try.sizeOf29)) ?_
    refine sx_guardT rfl rfl rfl ?_
    have f26 := hv10.ext cb2
    have f27 := f26.ext cb4
    have f28 := f27.ext c10
    refine sx_call rfl rfl Try.call62 (c_iIntOk f28 (by omega)) (fun v29 w29 p29 => ?_)
    obtain ⟨rfl, c29⟩ := p29
    have zw29 := c29.size
    refine sx_guardT rfl rfl rfl ?_
    refine sx_pure rfl rfl rfl (px_notP rfl) ?_
    refine sx_pure rfl rfl rfl (px_pick rfl rfl) ?_
    refine wl_nil (q_n (k7 _ _ ?_))
    refine sx_sub (Sub.cons (t := 1) rfl (.cons (t := 2) rfl (.cons (t := 3) rfl (.cons (t := 6) rfl (.cons (t := 7) rfl (.cons (t := 25) rfl (.nil))))))) ?_
    refine sx_condP rfl (fun h40x3 => ?_) (fun h40x3 => ?_)
    ·
     refine sx_seq fun K30 k30 => sx_region ?_
     refine sx_pure rfl rfl rfl (px_build rfl (xbld53x  _)) ?_
     have f32 := fb4.ext c10
     have f33 := f32.ext c29
     refine sx_store (vs := [.bool false, (.slice none 0 0), (.slice none 0 0)]) rfl rfl f33 rfl Try.sizeOf53 (Nat.le_of_ble_eq_true rfl) (one_cons rfl (one_cons rfl (one_cons rfl one_nil))) (fun w31 sw31 fw31 cw31 => ?_)
     have zw31 := cw31.size
     have gw31 : Blk w31 b4 [.bool false, (.slice none 0 0), (.slice none 0 0)] 53 := fw31
     refine sa rfl rfl rfl rfl ?_
     refine wl_nil (q_n (k30 _ _ ?_))
     refine sx_retc ?_
     refine q_r (sx_ret2 Try.results44 ⟨_, rfl, gw31.loadA (vs := [.bool false, (.slice none 0 0), (.slice none 0 0)]) (look_lit rfl) Try.isAgg53 Try.sizeOf53⟩ rfl ?_)
     rw [fair_no (fun h => by first | exact absurd h.1 (by assumption) | exact absurd h.2.2 (by assumption) | omega | exact absurd h.2.1 (by omega))]
     have q34 := Chg.step (l := 0) (h := 0) (Chg.zero (l := 0) (h := 0) (((cb2.t cb4).t c10).t c29)) cw31 (by omega)
     exact ⟨_, _, w.heap.size, w.heap.size, w.heap.size, w.heap.size, rfl, Own.nil _ _ _ _ _, Own.nil _ _ _ _ _, by omega, ⟨by simp [noR], by simp [noR]⟩, q34⟩
    ·
     have hW := Decidable.not_not.1 h40
     have hI := Decidable.not_not.1 h40x3
     have hi2 : 0 ≤ i ∧ i < ws.length := by omega
     obtain ⟨x1, rfl, rfl, hx1⟩ := hI.int
     have hwb := w_bd hW i.toNat
     have hws := w_sum hW
     have hz := hW.2.2.1
     have hw30 := hW.2.1
     have lw1 := len_u64 (n := ws.getD i.toNat 0) (by omega)
     have lw2 := len_u64 (n := ws.sum) (by omega)
     have lw3 := len_mul x1.natAbs (ws.getD i.toNat 0).toNat
     refine sx_skip ?_
     refine q_n (k6 _ _ ?_)
     refine sx_seq fun K35 k35 => ?_
     have f36 := f25.ext c29
     have f37 := f28.ext c29
     have f38 := f19.ext c29
     refine dx_region (fun w' => Chg b4 (b4 + 1) w29 w') (by kernel_rfl) (Chg.zero (Chg.drew _)) ?_
     have d39 := Chg.drew w29
     have s39 : Chg b4 (b4 + 1) w29 (World.drew w29) := Chg.zero (Chg.drew _)
     have y39 : (World.drew w29).heap.size = w29.heap.size := rfl
     generalize World.drew w29 = w39 at *
     have zw39 := d39.size
     refine dx_take 0 rfl rfl rfl rfl (by kernel_rfl) (by kernel_rfl) (by kernel_rfl) s39 (fun _ hS => px_field rfl xfld29x0) ?_
     refine dx_take 1 rfl rfl rfl rfl (by kernel_rfl) (by kernel_rfl) (by kernel_rfl) s39 (fun _ hS => px_load rfl ((f36.chg hS (by omega)).load1 rfl Try.isAgg4)) ?_
     refine dx_take 2 rfl rfl rfl rfl (by kernel_rfl) (by kernel_rfl) (by kernel_rfl) s39 (fun _ hS => px_field rfl xfld29x1) ?_
     refine dx_take 3 rfl rfl rfl rfl (by kernel_rfl) (by kernel_rfl) (by kernel_rfl) s39 (fun _ hS => px_load rfl ((f36.chg hS (by omega)).load1 rfl Try.isAgg22)) ?_
     refine dx_take 4 rfl rfl rfl rfl (by kernel_rfl) (by kernel_rfl) (by kernel_rfl) s39 (fun _ hS => px_move rfl) ?_
     refine dx_take 5 rfl rfl rfl rfl (by kernel_rfl) (by kernel_rfl) (by kernel_rfl) s39 (fun _ hS => px_move rfl) ?_
     refine dx_take 6 rfl rfl rfl rfl (by kernel_rfl) (by kernel_rfl) (by kernel_rfl) s39 (fun _ hS => px_index1 (j := i.toNat) rfl rfl (by omega) Try.underlying22 Try.sizeOf3 ((f38).chg hS (by omega)) (by omega)) ?_
     refine dx_take 7 rfl rfl rfl rfl (by kernel_rfl) (by kernel_rfl) (by kernel_rfl) s39 (fun _ hS => px_load rfl (((f38).chg hS (by omega)).load1 (at_int (by omega)) Try.isAgg3)) ?_
     refine dx_take 11 rfl rfl rfl rfl (by kernel_rfl) (by kernel_rfl) (by kernel_rfl) s39 (fun _ hS => px_move rfl) ?_
     refine dx_eff 8 rfl (by kernel_rfl) ?_
     refine sx_call rfl rfl Try.call92 (c_iNatOf (by omega)) (fun v40 w40 p40 => ?_)
     obtain ⟨s40, rfl, os_40, c40⟩ := p40
     have zw40 := c40.size
     have s41 : Chg b4 (b4 + 1) w29 w40 := (Chg.zero (l := b4) (h := (b4 + 1)) (d39.t c40))
     refine wl_nil ?_
     refine dx_next s41 ?_
     refine dx_eff 9 rfl (by kernel_rfl) ?_
     have f42 := f37.ext d39
     have f43 := f42.ext c40
     refine sx_call rfl rfl Try.call91 (c_natMul f43 os_40.sv (by omega) (by omega)) (fun v44 w44 p44 => ?_)
     obtain ⟨s44, rfl, os_44, c44⟩ := p44
     have zw44 := c44.size
     have s45 : Chg b4 (b4 + 1) w29 w44 := (Chg.zero (l := b4) (h := (b4 + 1)) ((d39.t c40).t c44))
     refine wl_nil ?_
     refine dx_next s45 ?_
     refine dx_eff 10 rfl (by kernel_rfl) ?_
     refine sx_call rfl rfl Try.call90 (c_signed os_44.sv (by omega)) (fun v46 w46 p46 => ?_)
     obtain ⟨rfl, c46⟩ := p46
     have zw46 := c46.size
     have s47 : Chg b4 (b4 + 1) w29 w46 := (Chg.zero (l := b4) (h := (b4 + 1)) (((d39.t c40).t c44).t c46))
     refine wl_nil ?_
     refine dx_next s47 ?_
     refine dx_eff 12 rfl (by kernel_rfl) ?_
     have f48 := f38.ext d39
     have f49 := f48.ext c40
     have f50 := f49.ext c44
     have f51 := f50.ext c46
     refine sx_call rfl rfl Try.call93 (c_sumInts f51 (by omega) (by assumption)) (fun v52 w52 p52 => ?_)
     obtain ⟨rfl, c52⟩ := p52
     have zw52 := c52.size
     have s53 : Chg b4 (b4 + 1) w29 w52 := (Chg.zero (l := b4) (h := (b4 + 1)) ((((d39.t c40).t c44).t c46).t c52))
     refine wl_nil ?_
     refine dx_next s53 ?_
     refine dx_eff 13 rfl (by kernel_rfl) ?_
     refine sx_call rfl rfl Try.call92 (c_iNatOf (by omega)) (fun v54 w54 p54 => ?_)
     obtain ⟨s54, rfl, os_54, c54⟩ := p54
     have zw54 := c54.size
     have s55 : Chg b4 (b4 + 1) w29 w54 := (Chg.zero (l := b4) (h := (b4 + 1)) (((((d39.t c40).t c44).t c46).t c52).t c54))
     refine wl_nil ?_
     refine dx_next s55 ?_
     refine dx_eff 14 rfl (by kernel_rfl) ?_
     have f56 := os_44.ext c46
     have f57 := f56.ext c52
     have f58 := f57.ext c54
     refine sx_call rfl rfl Try.call89 (c_reduce f58.sv os_54.sv (by omega) (by omega) (by omega)) (fun v59 w59 p59 => ?_)
     obtain ⟨s59, t59, ls59, us59, lt59, ut59, rfl, os_59, ot_59, hd59, hl59, c59⟩ := p59
     have zw59 := c59.size
     have s60 : Chg b4 (b4 + 1) w29 w59 := (Chg.zero (l := b4) (h := (b4 + 1)) ((((((d39.t c40).t c44).t c46).t c52).t c54).t c59))
     refine wl_nil ?_
     refine dx_next s60 ?_
     refine dx_take 15 rfl rfl rfl rfl (by kernel_rfl) (by kernel_rfl) (by kernel_rfl) s60 (fun _ hS => px_extract (vs := [.agg #[.bool ((rR (sgI (nz (ng x1) (dg (x1.natAbs * ((((ws).getD i.toNat 0)).toNat)))) (x1.natAbs * ((((ws).getD i.toNat 0)).toNat))) ((((ws).sum)).toNat)).1), s59, t59], .bool ((rR (sgI (nz (ng x1) (dg (x1.natAbs * ((((ws).getD i.toNat 0)).toNat)))) (x1.natAbs * ((((ws).getD i.toNat 0)).toNat))) ((((ws).sum)).toNat)).2.2.2)]) rfl rfl) ?_
     refine dx_take 16 rfl rfl rfl rfl (by kernel_rfl) (by kernel_rfl) (by kernel_rfl) s60 (fun _ hS => px_extract (vs := [.agg #[.bool ((rR (sgI (nz (ng x1) (dg (x1.natAbs * ((((ws).getD i.toNat 0)).toNat)))) (x1.natAbs * ((((ws).getD i.toNat 0)).toNat))) ((((ws).sum)).toNat)).1), s59, t59], .bool ((rR (sgI (nz (ng x1) (dg (x1.natAbs * ((((ws).getD i.toNat 0)).toNat)))) (x1.natAbs * ((((ws).getD i.toNat 0)).toNat))) ((((ws).sum)).toNat)).2.2.2)]) rfl rfl) ?_
     refine dx_eff 17 rfl (by kernel_rfl) ?_
     have f62 := fb4.ext c10
     have f63 := f62.ext c29
     have f64 := f63.ext d39
     have f65 := f64.ext c40
     have f66 := f65.ext c44
     have f67 := f66.ext c46
     have f68 := f67.ext c52
     have f69 := f68.ext c54
     have f70 := f69.ext c59
     refine sx_store (vs := [.bool ((rR (sgI (nz (ng x1) (dg (x1.natAbs * ((((ws).getD i.toNat 0)).toNat)))) (x1.natAbs * ((((ws).getD i.toNat 0)).toNat))) ((((ws).sum)).toNat)).1), s59, t59]) rfl rfl f70 rfl Try.sizeOf53 (Nat.le_of_ble_eq_true rfl) (one_cons rfl (one_cons os_59.one (one_cons ot_59.one one_nil))) (fun w61 sw61 fw61 cw61 => ?_)
     have zw61 := cw61.size
     have gw61 : Blk w61 b4 [.bool ((rR (sgI (nz (ng x1) (dg (x1.natAbs * ((((ws).getD i.toNat 0)).toNat)))) (x1.natAbs * ((((ws).getD i.toNat 0)).toNat))) ((((ws).sum)).toNat)).1), s59, t59] 53 := fw61
     have q72 := Chg.step (l := b4) (h := (b4 + 1)) (Chg.zero (l := b4) (h := (b4 + 1)) ((((((d39.t c40).t c44).t c46).t c52).t c54).t c59)) cw61 (by omega)
     have s71 : Chg b4 (b4 + 1) w29 w61 := q72
     refine wl_nil ?_
     refine dx_next s71 ?_
     refine dx_take 18 rfl rfl rfl rfl (by kernel_rfl) (by kernel_rfl) (by kernel_rfl) s71 (fun _ hS => px_assign rfl) ?_
     refine dx_done (by kernel_rfl) ?_
     refine q_n (k35 _ _ ?_)
     refine sx_sub (Sub.cons (t := 6) rfl (.cons (t := 7) rfl (.nil))) ?_
     refine sx_retc ?_
     refine sx_ret2 Try.results44 ⟨_, rfl, gw61.loadA (vs := [.bool ((rR (sgI (nz (ng x1) (dg (x1.natAbs * ((((ws).getD i.toNat 0)).toNat)))) (x1.natAbs * ((((ws).getD i.toNat 0)).toNat))) ((((ws).sum)).toNat)).1), s59, t59]) (look_lit rfl) Try.isAgg53 Try.sizeOf53⟩ rfl ?_
     have hrl := fair_len (n := ng x1) (z := dg x1.natAbs) (ws := ws) (i := i)
     have hre : fair (ng x1) (dg x1.natAbs) ws i = rR (sgI (nz (ng x1) (dg (x1.natAbs * (ws.getD i.toNat 0).toNat))) (x1.natAbs * (ws.getD i.toNat 0).toNat)) ws.sum.toNat := by rw [fair_ok ⟨hW, hi2, hI⟩, sgI_nz]
     rw [hre] at hrl ⊢
     have q73 := Chg.step (l := 0) (h := 0) (Chg.zero (l := 0) (h := 0) ((((((((((cb2.t cb4).t c10).t c29).t d39).t c40).t c44).t c46).t c52).t c54).t c59)) cw61 (by omega)
     have f74 := os_59.chg cw61 (by omega)
     have f75 := ot_59.chg cw61 (by omega)
     exact ⟨_, _, _, _, _, _, rfl, f74, f75, by omega, hrl, q73⟩

end Go.Proofs.Yteiifmkclokgnaa
