/- Contracts of functions of the program: what each call returns, and that it changes nothing that was. Conditions: as each says. -/
import Derived.Test.YtjkeefmpjocilaaTy
import Derived.Test.YtjkeefmpjocilaaNatI
import Derived.Test.YtjkeefmpjocilaaSxW
import Derived.Test.YtjkeefmpjocilaaSxQ
import Derived.Test.YtjkeefmpjocilaaSxR
import Derived.Test.YtjkeefmpjocilaaSxP
import Derived.Test.YtjkeefmpjocilaaRm
import Derived.Test.YtjkeefmpjocilaaL2
import Derived.Test.YtjkeefmpjocilaaL3
set_option linter.unusedVariables false
set_option linter.unusedSimpArgs false
namespace Go.Proofs.Ytjkeefmpjocilaa
open Go Go.RowKit
set_option maxRecDepth 100000
theorem c_iRatMakeH {w : World} {va : Value} {lva uva : Nat} {x : Int} {vb : Value} {lvb uvb : Nat} {y : Int} (hva : Sl w lva uva va (dg x.natAbs)) (hvb : Sl w lvb uvb vb (dg y.natAbs)) (hx : x = 1 ∧ y = 2) :
  Ret Try.prog 97 [.agg #[.bool (ng x), va], .agg #[.bool (ng y), vb]] w fun v w' => ∃ s t ls us lt ut, v = .tuple #[.agg #[.bool (ng (1 : Int)), s, t], .bool (true)] ∧ OwnI w' (ls) (us) s intT (dg (1 : Int).natAbs) ∧ OwnI w' (lt) (ut) t intT (dg 2) ∧ (w.heap.size ≤ ls ∧ us ≤ w'.heap.size ∧ w.heap.size ≤ lt ∧ ut ≤ w'.heap.size ∧ (us ≤ lt ∨ ut ≤ ls)) ∧ Chg 0 0 w w' := by
 obtain ⟨rfl, rfl⟩ := hx; have hl : ∀ n, n < 3 → (dg n).length ≤ 1 := fun n h => dg_len_le (by simp only [Bs]; omega)
 have h := c_iRatMake (n1 := ng 1) (n2 := ng 2) hva hvb ⟨Nat.le_trans (hl _ (by decide)) (by decide), Nat.le_trans (hl _ (by decide)) (by decide)⟩; rw [rMake_half] at h
 exact Calls.mono h fun ev w' ⟨v, he, s, t, ls, us, lt, ut, e1, o1, o2, hd, _, hc⟩ => ⟨v, he, s, t, ls, us, lt, ut, e1, o1, o2, hd, hc⟩

theorem c_iRatInt {w : World} {n1 : Bool} {v1 : Value} {lv1 uv1 : Nat} {z1 : List Int} (hv1 : Sl w lv1 uv1 v1 (z1)) (h63 : z1.length ≤ 4611686018427387904) :
  Ret Try.prog 76 [.agg #[.bool n1, v1]] w fun v w' => ∃ s t ls us lt ut, v = .tuple #[.agg #[.bool ((rInt n1 z1).1), s, t], .bool ((rInt n1 z1).2.2.2)] ∧ OwnI w' (ls) (us) s intT ((rInt n1 z1).2.1) ∧ OwnI w' (lt) (ut) t intT ((rInt n1 z1).2.2.1) ∧ (w.heap.size ≤ ls ∧ us ≤ w'.heap.size ∧ w.heap.size ≤ lt ∧ ut ≤ w'.heap.size ∧ (us ≤ lt ∨ ut ≤ ls)) ∧ ((rInt n1 z1).2.1.length ≤ 18 ∧ (rInt n1 z1).2.2.1.length ≤ 18) ∧ Chg 0 0 w w' := by
 have hv10 := hv1.fit
 refine sx_enter Try.func76 rfl Try.ntmps76 (nbl rfl) ?_
 refine sx_seq fun K1 k1 => sx_region ?_
 refine sx_box [.bool n1, v1] rfl rfl rfl (fun b2 w3 eb2 sb2 fb2 cb2 => ?_)
 have zw3 := cb2.size
 refine sx_alloc [.bool false, (.slice none 0 0), (.slice none 0 0)] rfl Try.zeroValue35 rfl (fun b4 w5 eb4 sb4 fb4 cb4 => ?_)
 have zw5 := cb4.size
 refine av rfl rfl (wl_nil (q_n (k1 _ _ ?_)))
 refine sx_seq fun K6 k6 => ?_
 have f7 := fb2.ext cb4
 have f8 := hv10.ext cb2
 have f9 := f8.ext cb4
 refine dx_region (fun w' => Chg b4 (b4 + 1) w5 w') (by kernel_rfl) (Chg.zero (Chg.drew _)) ?_
 have d10 := Chg.drew w5
 have s10 : Chg b4 (b4 + 1) w5 (World.drew w5) := Chg.zero (Chg.drew _)
 have y10 : (World.drew w5).heap.size = w5.heap.size := rfl
 generalize World.drew w5 = w10 at *
 have zw10 := d10.size
 refine dt 0 rfl rfl rfl rfl s10 (fun _ hS => px_load rfl ((f7.chg hS (by omega)).loadA (vs := [.bool n1, v1]) (look_lit rfl) Try.isAgg25 Try.sizeOf25)) ?_
 refine dx_eff 1 rfl (by kernel_rfl) ?_
 refine sx_call rfl rfl Try.call20 (c_iIntOf (by omega)) (fun v11 w11 p11 => ?_)
 obtain ⟨s11, rfl, os_11, c11⟩ := p11
 have zw11 := c11.size
 have s12 : Chg b4 (b4 + 1) w5 w11 := (Chg.zero (l := b4) (h := (b4 + 1)) (d10.t c11))
 refine wl_nil ?_
 refine dx_next s12 ?_
 refine dx_eff 2 rfl (by kernel_rfl) ?_
 have f14 := (f9.ext d10).ext c11
 refine sx_call rfl rfl Try.call97 (c_iRatMake f14 os_11.sv (by have h9 := len_i64 (n := 1) (by omega); omega)) (fun v15 w15 p15 => ?_)
 obtain ⟨s15, t15, ls15, us15, lt15, ut15, rfl, os_15, ot_15, hd15, hl15, c15⟩ := p15
 have zw15 := c15.size
 have s16 : Chg b4 (b4 + 1) w5 w15 := (Chg.zero (l := b4) (h := (b4 + 1)) ((d10.t c11).t c15))
 refine wl_nil ?_
 refine dx_next s16 ?_
 refine dt 3 rfl rfl rfl rfl s16 (fun _ hS => px_ex2 rfl rfl) ?_
 refine dt 4 rfl rfl rfl rfl s16 (fun _ hS => px_ex2 rfl rfl) ?_
 refine dx_eff 5 rfl (by kernel_rfl) ?_
 have f20 := ((fb4.ext d10).ext c11).ext c15
 refine sx_store (vs := [.bool ((rMake n1 z1 (ng (1 : Int)) (dg ((1 : Int)).natAbs)).1), s15, t15]) rfl rfl f20 rfl Try.sizeOf35 (nbl rfl) (one_cons rfl (one_cons os_15.one (one_cons ot_15.one one_nil))) (fun w17 sw17 fw17 cw17 => ?_)
 have zw17 := cw17.size
 have gw17 : Blk w17 b4 [.bool ((rMake n1 z1 (ng (1 : Int)) (dg ((1 : Int)).natAbs)).1), s15, t15] 35 := fw17
 have q22 := Chg.step (l := b4) (h := (b4 + 1)) (Chg.zero (l := b4) (h := (b4 + 1)) ((d10.t c11).t c15)) cw17 (by omega)
 have s21 : Chg b4 (b4 + 1) w5 w17 := q22
 refine wl_nil ?_
 refine dx_next s21 ?_
 refine dt 6 rfl rfl rfl rfl s21 (fun _ hS => px_assign rfl) ?_
 refine dx_done (by kernel_rfl) ?_
 refine q_n (k6 _ _ ?_)
 refine sx_retc ?_
 refine sx_ret2 Try.results76 ⟨_, rfl, gw17.loadA (vs := [.bool ((rMake n1 z1 (ng (1 : Int)) (dg ((1 : Int)).natAbs)).1), s15, t15]) (look_lit rfl) Try.isAgg35 Try.sizeOf35⟩ rfl ?_
 have hrl := rInt_len (n := n1) (z := z1)
 unfold rInt at hrl ⊢
 have q23 := Chg.step (l := 0) (h := 0) (Chg.zero (l := 0) (h := 0) ((((cb2.t cb4).t d10).t c11).t c15)) cw17 (by omega)
 have f24 := os_15.chg cw17 (by omega)
 have f25 := ot_15.chg cw17 (by omega)
 exact ⟨_, _, _, _, _, _, rfl, f24, f25, by omega, hrl, q23⟩

theorem c_iRatIntK {w : World} {va : Value} {lva uva : Nat} {x : Int} (hva : Sl w lva uva va (dg x.natAbs)) (hx : (dg x.natAbs).length ≤ 18) :
  Ret Try.prog 76 [.agg #[.bool (ng x), va]] w fun v w' => ∃ s t ls us lt ut, v = .tuple #[.agg #[.bool (ng x), s, t], .bool (true)] ∧ OwnI w' (ls) (us) s intT (dg (x).natAbs) ∧ OwnI w' (lt) (ut) t intT (dg 1) ∧ (w.heap.size ≤ ls ∧ us ≤ w'.heap.size ∧ w.heap.size ≤ lt ∧ ut ≤ w'.heap.size ∧ (us ≤ lt ∨ ut ≤ ls)) ∧ (ROk (ng x) (dg (x).natAbs) (dg 1)) ∧ Chg 0 0 w w' := by
 have h := c_iRatInt (n1 := ng x) hva (by omega); rw [rInt_ok hx, ← dg_1] at h
 exact Calls.mono h fun ev w' ⟨v, he, s, t, ls, us, lt, ut, e1, o1, o2, hd, _, hc⟩ => ⟨v, he, s, t, ls, us, lt, ut, e1, o1, o2, hd, ROk_whole hx, hc⟩

theorem c_ratsOk {w : World} {n1 : Bool} {v1 : Value} {lv1 uv1 : Nat} {z1 : List Int} {d1 : Value} {ld1 ud1 : Nat} {y1 : List Int} {n2 : Bool} {v2 : Value} {lv2 uv2 : Nat} {z2 : List Int} {d2 : Value} {ld2 ud2 : Nat} {y2 : List Int} (hv1 : Sl w lv1 uv1 v1 (z1)) (hd1 : Sl w ld1 ud1 d1 (y1)) (hv2 : Sl w lv2 uv2 v2 (z2)) (hd2 : Sl w ld2 ud2 d2 (y2)) (h63 : z1.length ≤ 4611686018427387904 ∧ y1.length ≤ 4611686018427387904 ∧ z2.length ≤ 4611686018427387904 ∧ y2.length ≤ 4611686018427387904) :
  Ret Try.prog 50 [.agg #[.bool n1, v1, d1], .agg #[.bool n2, v2, d2]] w fun v w' => v = .bool (decide (ROk n1 z1 y1 ∧ ROk n2 z2 y2)) ∧ Chg 0 0 w w' := by
 have hv10 := hv1.fit
 have hd10 := hd1.fit
 have hv20 := hv2.fit
 have hd20 := hd2.fit
 refine sx_enter Try.func50 rfl Try.ntmps50 (nbl rfl) ?_
 refine sx_seq fun K1 k1 => sx_region ?_
 refine sx_box [.bool n1, v1, d1] rfl rfl rfl (fun b2 w3 eb2 sb2 fb2 cb2 => ?_)
 have zw3 := cb2.size
 refine sx_box [.bool n2, v2, d2] rfl rfl rfl (fun b4 w5 eb4 sb4 fb4 cb4 => ?_)
 have zw5 := cb4.size
 refine av rfl rfl (wl_nil (q_n (k1 _ _ ?_)))
 refine sx_seq fun K6 k6 => sx_region ?_
 have f7 := fb2.ext cb4
 refine sp rfl (px_load rfl (f7.loadA (vs := [.bool n1, v1, d1]) (look_lit rfl) Try.isAgg35 Try.sizeOf35)) ?_
 have f8 := hv10.ext cb2
 have f9 := f8.ext cb4
 have f10 := hd10.ext cb2
 have f11 := f10.ext cb4
 refine sx_call rfl rfl Try.call46 (c_iRatOk f9 f11 (by omega)) (fun v12 w12 p12 => ?_)
 obtain ⟨rfl, c12⟩ := p12
 have zw12 := c12.size
 refine mv rfl rfl ?_
 refine sx_tmpP (t := 7) rfl (fun h33 => ?_) (fun h33 => ?_)
 ·
  refine sx_guardT rfl rfl rfl ?_
  have f13 := fb4.ext c12
  refine sp rfl (px_load rfl (f13.loadA (vs := [.bool n2, v2, d2]) (look_lit rfl) Try.isAgg35 Try.sizeOf35)) ?_
  refine sx_guardT rfl rfl rfl ?_
  have f14 := hv20.ext cb2
  have f15 := f14.ext cb4
  have f16 := f15.ext c12
  have f17 := hd20.ext cb2
  have f18 := f17.ext cb4
  have f19 := f18.ext c12
  refine sx_call rfl rfl Try.call46 (c_iRatOk f16 f19 (by omega)) (fun v20 w20 p20 => ?_)
  obtain ⟨rfl, c20⟩ := p20
  have zw20 := c20.size
  refine sp rfl (px_pick rfl rfl) ?_
  refine av rfl rfl (wl_nil (q_n (k6 _ _ ?_)))
  refine sx_retc ?_
  refine sx_ret1 Try.results50 rfl ?_
  exact ⟨(by first | exact bTrue (by grind) | exact bFalse (by grind) | exact bIff (by grind)), (((cb2.t cb4).t c12).t c20)⟩
 refine sx_guardF rfl rfl rfl rfl rfl rfl ?_
 refine sx_guardF rfl rfl rfl rfl rfl rfl ?_
 refine sp rfl (px_pick rfl rfl) ?_
 refine av rfl rfl (wl_nil (q_n (k6 _ _ ?_)))
 refine sx_retc ?_
 refine sx_ret1 Try.results50 rfl ?_
 exact ⟨(by first | exact bTrue (by grind) | exact bFalse (by grind) | exact bIff (by grind)), ((cb2.t cb4).t c12)⟩

theorem c_intNeg {w : World} {va : Value} {lva uva : Nat} {x : Int} (hva : Sl w lva uva va (dg x.natAbs)) (hbx : (dg x.natAbs).length ≤ 1000) :
  Ret Try.prog 58 [.agg #[.bool (ng x), va]] w fun v w' => ∃ s, v = .agg #[.bool (ng (-x)), s] ∧ OwnI w' w.heap.size w'.heap.size s intT (dg (-x).natAbs) ∧ Chg 0 0 w w' := by
 have hva0 := hva.fit
 refine sx_enter Try.func58 rfl Try.ntmps58 (nbl rfl) ?_
 refine sx_seq fun K1 k1 => sx_region ?_
 refine sx_box [.bool (ng x), va] rfl rfl rfl (fun b2 w3 eb2 sb2 fb2 cb2 => ?_)
 have zw3 := cb2.size
 refine sx_alloc [.bool false, (.slice none 0 0)] rfl Try.zeroValue25 rfl (fun b4 w5 eb4 sb4 fb4 cb4 => ?_)
 have zw5 := cb4.size
 refine wl_nil (q_n (k1 _ _ ?_))
 refine sx_seq fun K6 k6 => ?_
 have f7 := fb2.ext cb4
 have f8 := hva0.ext cb2
 have f9 := f8.ext cb4
 refine dx_region (fun w' => Chg b4 (b4 + 1) w5 w') (by kernel_rfl) (Chg.zero (Chg.drew _)) ?_
 have d10 := Chg.drew w5
 have s10 : Chg b4 (b4 + 1) w5 (World.drew w5) := Chg.zero (Chg.drew _)
 have y10 : (World.drew w5).heap.size = w5.heap.size := rfl
 generalize World.drew w5 = w10 at *
 have zw10 := d10.size
 refine dt 0 rfl rfl rfl rfl s10 (fun _ hS => px_field rfl xfld25x0) ?_
 refine dt 1 rfl rfl rfl rfl s10 (fun _ hS => px_load rfl ((f7.chg hS (by omega)).load1 rfl Try.isAgg4)) ?_
 refine dt 2 rfl rfl rfl rfl s10 (fun _ hS => px_not rfl) ?_
 refine dt 3 rfl rfl rfl rfl s10 (fun _ hS => px_field rfl xfld25x1) ?_
 refine dt 4 rfl rfl rfl rfl s10 (fun _ hS => px_load rfl ((f7.chg hS (by omega)).load1 rfl Try.isAgg23)) ?_
 refine dx_eff 5 rfl (by kernel_rfl) ?_
 have f11 := f9.ext d10
 refine sx_call rfl rfl Try.call28 (c_natCopy f11 (by omega)) (fun v12 w12 p12 => ?_)
 obtain ⟨s12, rfl, os_12, c12⟩ := p12
 have zw12 := c12.size
 have s13 : Chg b4 (b4 + 1) w5 w12 := (Chg.zero (l := b4) (h := (b4 + 1)) (d10.t c12))
 refine wl_nil ?_
 refine dx_next s13 ?_
 refine dx_eff 6 rfl (by kernel_rfl) ?_
 refine sx_call rfl rfl Try.call39 (c_signed os_12.sv (by omega)) (fun v14 w14 p14 => ?_)
 obtain ⟨rfl, c14⟩ := p14
 have zw14 := c14.size
 have s15 : Chg b4 (b4 + 1) w5 w14 := (Chg.zero (l := b4) (h := (b4 + 1)) ((d10.t c12).t c14))
 refine wl_nil ?_
 refine dx_next s15 ?_
 refine dx_eff 7 rfl (by kernel_rfl) ?_
 have f19 := ((fb4.ext d10).ext c12).ext c14
 have f20 := os_12.ext c14
 refine sx_store (vs := [.bool (nz (!(ng x)) (dg x.natAbs)), v12]) rfl rfl f19 rfl Try.sizeOf25 (nbl rfl) (one_cons rfl (one_cons f20.one one_nil)) (fun w16 sw16 fw16 cw16 => ?_)
 have zw16 := cw16.size
 have gw16 : Blk w16 b4 [.bool (nz (!(ng x)) (dg x.natAbs)), v12] 25 := fw16
 have q22 := Chg.step (l := b4) (h := (b4 + 1)) (Chg.zero (l := b4) (h := (b4 + 1)) ((d10.t c12).t c14)) cw16 (by omega)
 have s21 : Chg b4 (b4 + 1) w5 w16 := q22
 refine wl_nil ?_
 refine dx_next s21 ?_
 refine dx_done (by kernel_rfl) ?_
 refine q_n (k6 _ _ ?_)
 refine sx_retc ?_
 refine sx_ret1 Try.results58 ⟨_, rfl, gw16.loadA (vs := [.bool (nz (!(ng x)) (dg x.natAbs)), v12]) (look_lit rfl) Try.isAgg25 Try.sizeOf25⟩ ?_
 have hh := neg_sg x
 rw [← hh.1, ← hh.2]
 have q23 := Chg.step (l := 0) (h := 0) (Chg.zero (l := 0) (h := 0) ((((cb2.t cb4).t d10).t c12).t c14)) cw16 (by omega)
 have f24 := f20.chg cw16 (by omega)
 exact ⟨_, rfl, (Own.mono f24 (by omega) (by omega)), q23⟩

theorem c_ratNeg {w : World} {va : Value} {lva uva : Nat} {x : Int} {vd : Value} {lvd uvd : Nat} {yy : List Int} (hva : Sl w lva uva va (dg x.natAbs)) (hvd : Sl w lvd uvd vd (yy)) (hbx : (dg x.natAbs).length ≤ 1000) (h63 : yy.length ≤ 1048576) :
  Ret Try.prog 99 [.agg #[.bool (ng x), va, vd]] w fun v w' => ∃ s t ls us lt ut, v = .agg #[.bool (ng (-x)), s, t] ∧ OwnI w' (ls) (us) s intT (dg (-x).natAbs) ∧ OwnI w' (lt) (ut) t intT (yy) ∧ (w.heap.size ≤ ls ∧ us ≤ w'.heap.size ∧ w.heap.size ≤ lt ∧ ut ≤ w'.heap.size ∧ (us ≤ lt ∨ ut ≤ ls)) ∧ Chg 0 0 w w' := by
 have hva0 := hva.fit
 have hvd0 := hvd.fit
 refine sx_enter Try.func99 rfl Try.ntmps99 (nbl rfl) ?_
 refine sx_seq fun K1 k1 => sx_region ?_
 refine sx_box [.bool (ng x), va, vd] rfl rfl rfl (fun b2 w3 eb2 sb2 fb2 cb2 => ?_)
 have zw3 := cb2.size
 refine sx_alloc [.bool false, (.slice none 0 0), (.slice none 0 0)] rfl Try.zeroValue35 rfl (fun b4 w5 eb4 sb4 fb4 cb4 => ?_)
 have zw5 := cb4.size
 refine wl_nil (q_n (k1 _ _ ?_))
 refine sx_seq fun K6 k6 => ?_
 have f7 := fb2.ext cb4
 have f8 := hva0.ext cb2
 have f9 := f8.ext cb4
 have f10 := hvd0.ext cb2
 have f11 := f10.ext cb4
 refine dx_region (fun w' => Chg b4 (b4 + 1) w5 w') (by kernel_rfl) (Chg.zero (Chg.drew _)) ?_
 have d12 := Chg.drew w5
 have s12 : Chg b4 (b4 + 1) w5 (World.drew w5) := Chg.zero (Chg.drew _)
 have y12 : (World.drew w5).heap.size = w5.heap.size := rfl
 generalize World.drew w5 = w12 at *
 have zw12 := d12.size
 refine dt 0 rfl rfl rfl rfl s12 (fun _ hS => px_field rfl xfld35x0) ?_
 refine dt 1 rfl rfl rfl rfl s12 (fun _ hS => px_load rfl ((f7.chg hS (by omega)).loadA (vs := [.bool (ng x), va]) (look_lit rfl) Try.isAgg25 Try.sizeOf25)) ?_
 refine dt 3 rfl rfl rfl rfl s12 (fun _ hS => px_field rfl xfld35x1) ?_
 refine dt 4 rfl rfl rfl rfl s12 (fun _ hS => px_load rfl ((f7.chg hS (by omega)).load1 rfl Try.isAgg23)) ?_
 refine dx_eff 2 rfl (by kernel_rfl) ?_
 have f13 := f9.ext d12
 refine sx_call rfl rfl Try.call58 (c_intNeg f13 (by omega)) (fun v14 w14 p14 => ?_)
 obtain ⟨s14, rfl, os_14, c14⟩ := p14
 have zw14 := c14.size
 have s15 : Chg b4 (b4 + 1) w5 w14 := (Chg.zero (l := b4) (h := (b4 + 1)) (d12.t c14))
 refine wl_nil ?_
 refine dx_next s15 ?_
 refine dx_eff 5 rfl (by kernel_rfl) ?_
 have f17 := (f11.ext d12).ext c14
 refine sx_call rfl rfl Try.call28 (c_natCopy f17 (by omega)) (fun v18 w18 p18 => ?_)
 obtain ⟨s18, rfl, os_18, c18⟩ := p18
 have zw18 := c18.size
 have s19 : Chg b4 (b4 + 1) w5 w18 := (Chg.zero (l := b4) (h := (b4 + 1)) ((d12.t c14).t c18))
 refine wl_nil ?_
 refine dx_next s19 ?_
 refine dt 6 rfl rfl rfl rfl s19 (fun _ hS => px_build rfl (xbld35x0x1 os_18.one _)) ?_
 refine dx_eff 7 rfl (by kernel_rfl) ?_
 have f23 := ((fb4.ext d12).ext c14).ext c18
 have f24 := os_14.ext c18
 refine sx_store (vs := [.bool (ng (-x)), s14, v18]) rfl rfl f23 rfl Try.sizeOf35 (nbl rfl) (one_cons rfl (one_cons f24.one (one_cons os_18.one one_nil))) (fun w20 sw20 fw20 cw20 => ?_)
 have zw20 := cw20.size
 have gw20 : Blk w20 b4 [.bool (ng (-x)), s14, v18] 35 := fw20
 have q26 := Chg.step (l := b4) (h := (b4 + 1)) (Chg.zero (l := b4) (h := (b4 + 1)) ((d12.t c14).t c18)) cw20 (by omega)
 have s25 : Chg b4 (b4 + 1) w5 w20 := q26
 refine wl_nil ?_
 refine dx_next s25 ?_
 refine dx_done (by kernel_rfl) ?_
 refine q_n (k6 _ _ ?_)
 refine sx_retc ?_
 refine sx_ret1 Try.results99 ⟨_, rfl, gw20.loadA (vs := [.bool (ng (-x)), s14, v18]) (look_lit rfl) Try.isAgg35 Try.sizeOf35⟩ ?_
 have q27 := Chg.step (l := 0) (h := 0) (Chg.zero (l := 0) (h := 0) ((((cb2.t cb4).t d12).t c14).t c18)) cw20 (by omega)
 have f28 := f24.chg cw20 (by omega)
 have f29 := os_18.chg cw20 (by omega)
 exact ⟨_, _, _, _, _, _, rfl, f28, f29, by omega, q27⟩

theorem c_ratNum {w : World} {va : Value} {lva uva : Nat} {x : Int} {vd : Value} {lvd uvd : Nat} {yy : List Int} {vb : Value} {lvb uvb : Nat} {b : Nat} (hva : Sl w lva uva va (dg x.natAbs)) (hvd : Sl w lvd uvd vd (yy)) (hvb : Sl w lvb uvb vb (dg b)) (hbx : (dg x.natAbs).length ≤ 1000) (hbb : (dg b).length ≤ 1000) :
  Ret Try.prog 51 [.agg #[.bool (ng x), va, vd], vb] w fun v w' => ∃ s, v = .agg #[.bool (ng (x * ((b : Nat) : Int))), s] ∧ OwnI w' w.heap.size w'.heap.size s intT (dg (x * ((b : Nat) : Int)).natAbs) ∧ Chg 0 0 w w' := by
 have hva0 := hva.fit
 have hvd0 := hvd.fit
 have hvb0 := hvb.fit
 have lmb := len_mul x.natAbs b
 refine sx_enter Try.func51 rfl Try.ntmps51 (nbl rfl) ?_
 refine sx_seq fun K1 k1 => sx_region ?_
 refine sx_box [.bool (ng x), va, vd] rfl rfl rfl (fun b2 w3 eb2 sb2 fb2 cb2 => ?_)
 have zw3 := cb2.size
 refine sx_alloc [.bool false, (.slice none 0 0)] rfl Try.zeroValue25 rfl (fun b4 w5 eb4 sb4 fb4 cb4 => ?_)
 have zw5 := cb4.size
 refine wl_nil (q_n (k1 _ _ ?_))
 refine sx_seq fun K6 k6 => ?_
 have f7 := fb2.ext cb4
 have f8 := hva0.ext cb2
 have f9 := f8.ext cb4
 have f10 := hvd0.ext cb2
 have f11 := f10.ext cb4
 have f12 := hvb0.ext cb2
 have f13 := f12.ext cb4
 refine dx_region (fun w' => Chg b4 (b4 + 1) w5 w') (by kernel_rfl) (Chg.zero (Chg.drew _)) ?_
 have d14 := Chg.drew w5
 have s14 : Chg b4 (b4 + 1) w5 (World.drew w5) := Chg.zero (Chg.drew _)
 have y14 : (World.drew w5).heap.size = w5.heap.size := rfl
 generalize World.drew w5 = w14 at *
 have zw14 := d14.size
 refine dt 0 rfl rfl rfl rfl s14 (fun _ hS => px_field rfl xfld35x0) ?_
 refine dt 1 rfl rfl rfl rfl s14 (fun _ hS => px_field rfl xfld25x0) ?_
 refine dt 2 rfl rfl rfl rfl s14 (fun _ hS => px_load rfl ((f7.chg hS (by omega)).load1 rfl Try.isAgg4)) ?_
 refine dt 3 rfl rfl rfl rfl s14 (fun _ hS => px_field rfl xfld35x0) ?_
 refine dt 4 rfl rfl rfl rfl s14 (fun _ hS => px_field rfl xfld25x1) ?_
 refine dt 5 rfl rfl rfl rfl s14 (fun _ hS => px_load rfl ((f7.chg hS (by omega)).load1 rfl Try.isAgg23)) ?_
 refine dt 6 rfl rfl rfl rfl s14 (fun _ hS => px_move rfl) ?_
 refine dx_eff 7 rfl (by kernel_rfl) ?_
 have f15 := f9.ext d14
 have f16 := f13.ext d14
 refine sx_call rfl rfl Try.call30 (c_natMul f15 f16 (by omega) (by omega)) (fun v17 w17 p17 => ?_)
 obtain ⟨s17, rfl, os_17, c17⟩ := p17
 have zw17 := c17.size
 have s18 : Chg b4 (b4 + 1) w5 w17 := (Chg.zero (l := b4) (h := (b4 + 1)) (d14.t c17))
 refine wl_nil ?_
 refine dx_next s18 ?_
 refine dx_eff 8 rfl (by kernel_rfl) ?_
 refine sx_call rfl rfl Try.call39 (c_signed os_17.sv (by omega)) (fun v19 w19 p19 => ?_)
 obtain ⟨rfl, c19⟩ := p19
 have zw19 := c19.size
 have s20 : Chg b4 (b4 + 1) w5 w19 := (Chg.zero (l := b4) (h := (b4 + 1)) ((d14.t c17).t c19))
 refine wl_nil ?_
 refine dx_next s20 ?_
 refine dx_eff 9 rfl (by kernel_rfl) ?_
 have f24 := ((fb4.ext d14).ext c17).ext c19
 have f25 := os_17.ext c19
 refine sx_store (vs := [.bool (nz (ng x) (dg (x.natAbs * b))), v17]) rfl rfl f24 rfl Try.sizeOf25 (nbl rfl) (one_cons rfl (one_cons f25.one one_nil)) (fun w21 sw21 fw21 cw21 => ?_)
 have zw21 := cw21.size
 have gw21 : Blk w21 b4 [.bool (nz (ng x) (dg (x.natAbs * b))), v17] 25 := fw21
 have q27 := Chg.step (l := b4) (h := (b4 + 1)) (Chg.zero (l := b4) (h := (b4 + 1)) ((d14.t c17).t c19)) cw21 (by omega)
 have s26 : Chg b4 (b4 + 1) w5 w21 := q27
 refine wl_nil ?_
 refine dx_next s26 ?_
 refine dx_done (by kernel_rfl) ?_
 refine q_n (k6 _ _ ?_)
 refine sx_retc ?_
 refine sx_ret1 Try.results51 ⟨_, rfl, gw21.loadA (vs := [.bool (nz (ng x) (dg (x.natAbs * b))), v17]) (look_lit rfl) Try.isAgg25 Try.sizeOf25⟩ ?_
 have hh := mul_nat_sg x b
 rw [← hh.1, ← hh.2]
 have q28 := Chg.step (l := 0) (h := 0) (Chg.zero (l := 0) (h := 0) ((((cb2.t cb4).t d14).t c17).t c19)) cw21 (by omega)
 have f29 := f25.chg cw21 (by omega)
 exact ⟨_, rfl, (Own.mono f29 (by omega) (by omega)), q28⟩

theorem c_iRatAdd {w : World} {n1 : Bool} {v1 : Value} {lv1 uv1 : Nat} {z1 : List Int} {d1 : Value} {ld1 ud1 : Nat} {y1 : List Int} {n2 : Bool} {v2 : Value} {lv2 uv2 : Nat} {z2 : List Int} {d2 : Value} {ld2 ud2 : Nat} {y2 : List Int} (hv1 : Sl w lv1 uv1 v1 (z1)) (hd1 : Sl w ld1 ud1 d1 (y1)) (hv2 : Sl w lv2 uv2 v2 (z2)) (hd2 : Sl w ld2 ud2 d2 (y2)) (h63 : z1.length ≤ 4611686018427387904 ∧ y1.length ≤ 4611686018427387904 ∧ z2.length ≤ 4611686018427387904 ∧ y2.length ≤ 4611686018427387904) :
  Ret Try.prog 98 [.agg #[.bool n1, v1, d1], .agg #[.bool n2, v2, d2]] w fun v w' => ∃ s t ls us lt ut, v = .tuple #[.agg #[.bool ((rAdd n1 z1 y1 n2 z2 y2).1), s, t], .bool ((rAdd n1 z1 y1 n2 z2 y2).2.2.2)] ∧ OwnI w' (ls) (us) s intT ((rAdd n1 z1 y1 n2 z2 y2).2.1) ∧ OwnI w' (lt) (ut) t intT ((rAdd n1 z1 y1 n2 z2 y2).2.2.1) ∧ (w.heap.size ≤ ls ∧ us ≤ w'.heap.size ∧ w.heap.size ≤ lt ∧ ut ≤ w'.heap.size ∧ (us ≤ lt ∨ ut ≤ ls)) ∧ ((rAdd n1 z1 y1 n2 z2 y2).2.1.length ≤ 18 ∧ (rAdd n1 z1 y1 n2 z2 y2).2.2.1.length ≤ 18) ∧ Chg 0 0 w w' := by
 have hv10 := hv1.fit
 have hd10 := hd1.fit
 have hv20 := hv2.fit
 have hd20 := hd2.fit
 refine sx_enter Try.func98 rfl Try.ntmps98 (nbl rfl) ?_
 refine sx_seq fun K1 k1 => sx_region ?_
 refine sx_box [.bool n1, v1, d1] rfl rfl rfl (fun b2 w3 eb2 sb2 fb2 cb2 => ?_)
 have zw3 := cb2.size
 refine sx_box [.bool n2, v2, d2] rfl rfl rfl (fun b4 w5 eb4 sb4 fb4 cb4 => ?_)
 have zw5 := cb4.size
 refine sx_alloc [.bool false, (.slice none 0 0), (.slice none 0 0)] rfl Try.zeroValue35 rfl (fun b6 w7 eb6 sb6 fb6 cb6 => ?_)
 have zw7 := cb6.size
 refine av rfl rfl (wl_nil (q_n (k1 _ _ ?_)))
 refine sx_seq fun K8 k8 => ?_
 refine sx_seq fun K9 k9 => sx_region ?_
 have f10 := fb2.ext cb4
 have f11 := f10.ext cb6
 refine sp rfl (px_load rfl (f11.loadA (vs := [.bool n1, v1, d1]) (look_lit rfl) Try.isAgg35 Try.sizeOf35)) ?_
 have f12 := fb4.ext cb6
 refine sp rfl (px_load rfl (f12.loadA (vs := [.bool n2, v2, d2]) (look_lit rfl) Try.isAgg35 Try.sizeOf35)) ?_
 have f13 := hv10.ext cb2
 have f14 := f13.ext cb4
 have f15 := f14.ext cb6
 have f16 := hd10.ext cb2
 have f17 := f16.ext cb4
 have f18 := f17.ext cb6
 have f19 := hv20.ext cb2
 have f20 := f19.ext cb4
 have f21 := f20.ext cb6
 have f22 := hd20.ext cb2
 have f23 := f22.ext cb4
 have f24 := f23.ext cb6
 refine sx_call rfl rfl Try.call50 (c_ratsOk f15 f18 f21 f24 (by omega)) (fun v25 w25 p25 => ?_)
 obtain ⟨rfl, c25⟩ := p25
 have zw25 := c25.size
 refine sp rfl (px_notP rfl) ?_
 refine wl_nil (q_n (k9 _ _ ?_))
 refine sx_condP rfl (fun h54 => ?_) (fun h54 => ?_)
 ·
  refine sx_seq fun K26 k26 => sx_region ?_
  refine sp rfl (px_build rfl (xbld35x  _)) ?_
  have f28 := fb6.ext c25
  refine sx_store (vs := [.bool false, (.slice none 0 0), (.slice none 0 0)]) rfl rfl f28 rfl Try.sizeOf35 (nbl rfl) (o3 rfl rfl rfl) (fun w27 sw27 fw27 cw27 => ?_)
  have zw27 := cw27.size
  have gw27 : Blk w27 b6 [.bool false, (.slice none 0 0), (.slice none 0 0)] 35 := fw27
  refine av rfl rfl (wl_nil (q_n (k26 _ _ ?_)))
  refine sx_retc ?_
  refine q_r (sx_ret2 Try.results98 ⟨_, rfl, gw27.loadA (vs := [.bool false, (.slice none 0 0), (.slice none 0 0)]) (look_lit rfl) Try.isAgg35 Try.sizeOf35⟩ rfl ?_)
  rw [rAdd_no h54]
  have q29 := Chg.step (l := 0) (h := 0) (Chg.zero (l := 0) (h := 0) (((cb2.t cb4).t cb6).t c25)) cw27 (by omega)
  exact ⟨_, _, w.heap.size, w.heap.size, w.heap.size, w.heap.size, rfl, Own.nil _ _ _ _ _, Own.nil _ _ _ _ _, by omega, ⟨by simp [noR], by simp [noR]⟩, q29⟩
 have hR1 := (Decidable.not_not.1 h54).1
 have hR2 := (Decidable.not_not.1 h54).2
 obtain ⟨x1, e1, rfl, rfl, rfl, hp1, hx1, hy1, hg1⟩ := hR1.rat
 obtain ⟨x2, e2, rfl, rfl, rfl, hp2, hx2, hy2, hg2⟩ := hR2.rat
 have l1 := len_mul x1.natAbs e2
 have l2 := len_mul x2.natAbs e1
 have l3 := len_mul e1 e2
 have a1 : (x1 * (e2 : Int)).natAbs = x1.natAbs * e2 := by rw [Int.natAbs_mul, Int.natAbs_natCast]
 have a2 : (x2 * (e1 : Int)).natAbs = x2.natAbs * e1 := by rw [Int.natAbs_mul, Int.natAbs_natCast]
 have l4 := len_addI (x1 * (e2 : Int)) (x2 * (e1 : Int))
 rw [a1, a2] at l4
 have l5 := len_mul e1 x2.natAbs
 have l6 := len_mul x1.natAbs x2.natAbs
 refine sx_skip ?_
 refine q_n (k8 _ _ ?_)
 refine sx_seq fun K30 k30 => ?_
 have f31 := f11.ext c25
 have f32 := f12.ext c25
 refine dx_region (fun w' => Chg 0 0 w25 w') (by kernel_rfl) (Chg.zero (Chg.drew _)) ?_
 have d38 := Chg.drew w25
 have s38 : Chg 0 0 w25 (World.drew w25) := Chg.zero (Chg.drew _)
 have y38 : (World.drew w25).heap.size = w25.heap.size := rfl
 generalize World.drew w25 = w38 at *
 have zw38 := d38.size
 refine dt 0 rfl rfl rfl rfl s38 (fun _ hS => px_load rfl ((f31.chg hS (by omega)).loadA (vs := [.bool (ng x1), v1, d1]) (look_lit rfl) Try.isAgg35 Try.sizeOf35)) ?_
 refine dt 1 rfl rfl rfl rfl s38 (fun _ hS => px_makeFunc rfl rfl) ?_
 refine dt 2 rfl rfl rfl rfl s38 (fun _ hS => px_load rfl ((f32.chg hS (by omega)).loadA (vs := [.bool (ng x2), v2, d2]) (look_lit rfl) Try.isAgg35 Try.sizeOf35)) ?_
 refine dt 3 rfl rfl rfl rfl s38 (fun _ hS => px_makeFunc rfl rfl) ?_
 refine dt 4 rfl rfl rfl rfl s38 (fun _ hS => px_assign rfl) ?_
 refine dt 5 rfl rfl rfl rfl s38 (fun _ hS => px_assign rfl) ?_
 refine dx_done (by kernel_rfl) ?_
 refine q_n (k30 _ _ ?_)
 refine sx_sub (Sub.c 2 rfl (.c 3 rfl (.c 4 rfl (.c 5 rfl (.c 6 rfl (.c 7 rfl .nil)))))) ?_
 refine sx_seq fun K39 k39 => ?_
 have f40 := f31.ext d38
 have f41 := f32.ext d38
 refine dx_region (fun w' => Chg b6 (b6 + 1) w38 w') (by kernel_rfl) (Chg.zero (Chg.drew _)) ?_
 have d46 := Chg.drew w38
 have s46 : Chg b6 (b6 + 1) w38 (World.drew w38) := Chg.zero (Chg.drew _)
 have y46 : (World.drew w38).heap.size = w38.heap.size := rfl
 generalize World.drew w38 = w46 at *
 have zw46 := d46.size
 refine dt 0 rfl rfl rfl rfl s46 (fun _ hS => px_move rfl) ?_
 refine dt 1 rfl rfl rfl rfl s46 (fun _ hS => px_field rfl xfld35x1) ?_
 refine dt 2 rfl rfl rfl rfl s46 (fun _ hS => px_load rfl ((f41.chg hS (by omega)).load1 rfl Try.isAgg23)) ?_
 refine dt 4 rfl rfl rfl rfl s46 (fun _ hS => px_move rfl) ?_
 refine dt 5 rfl rfl rfl rfl s46 (fun _ hS => px_field rfl xfld35x1) ?_
 refine dt 6 rfl rfl rfl rfl s46 (fun _ hS => px_load rfl ((f40.chg hS (by omega)).load1 rfl Try.isAgg23)) ?_
 refine dt 9 rfl rfl rfl rfl s46 (fun _ hS => px_field rfl xfld35x1) ?_
 refine dt 10 rfl rfl rfl rfl s46 (fun _ hS => px_load rfl ((f40.chg hS (by omega)).load1 rfl Try.isAgg23)) ?_
 refine dt 11 rfl rfl rfl rfl s46 (fun _ hS => px_field rfl xfld35x1) ?_
 refine dt 12 rfl rfl rfl rfl s46 (fun _ hS => px_load rfl ((f41.chg hS (by omega)).load1 rfl Try.isAgg23)) ?_
 refine dx_eff 3 rfl (by kernel_rfl) ?_
 have f47 := ((f15.ext c25).ext d38).ext d46
 have f48 := ((f18.ext c25).ext d38).ext d46
 have f49 := ((f24.ext c25).ext d38).ext d46
 refine sx_callV rfl rfl rfl Try.call51 (c_ratNum f47 f48 f49 (by omega) (by omega)) (fun v50 w50 p50 => ?_)
 obtain ⟨s50, rfl, os_50, c50⟩ := p50
 have zw50 := c50.size
 have s51 : Chg b6 (b6 + 1) w38 w50 := (Chg.zero (l := b6) (h := (b6 + 1)) (d46.t c50))
 refine wl_nil ?_
 refine dx_next s51 ?_
 refine dx_eff 7 rfl (by kernel_rfl) ?_
 have f53 := (((f21.ext c25).ext d38).ext d46).ext c50
 have f54 := f49.ext c50
 have f55 := f48.ext c50
 refine sx_callV rfl rfl rfl Try.call51 (c_ratNum f53 f54 f55 (by omega) (by omega)) (fun v56 w56 p56 => ?_)
 obtain ⟨s56, rfl, os_56, c56⟩ := p56
 have zw56 := c56.size
 have s57 : Chg b6 (b6 + 1) w38 w56 := (Chg.zero (l := b6) (h := (b6 + 1)) ((d46.t c50).t c56))
 refine wl_nil ?_
 refine dx_next s57 ?_
 refine dx_eff 8 rfl (by kernel_rfl) ?_
 have f58 := os_50.ext c56
 refine sx_call rfl rfl Try.call57 (c_intAdd f58.sv os_56.sv (by rw [a1]; omega) (by rw [a2]; omega)) (fun v59 w59 p59 => ?_)
 obtain ⟨s59, rfl, os_59, c59⟩ := p59
 have zw59 := c59.size
 have s60 : Chg b6 (b6 + 1) w38 w59 := (Chg.zero (l := b6) (h := (b6 + 1)) (((d46.t c50).t c56).t c59))
 refine wl_nil ?_
 refine dx_next s60 ?_
 refine dx_eff 13 rfl (by kernel_rfl) ?_
 have f62 := (f55.ext c56).ext c59
 have f64 := (f54.ext c56).ext c59
 refine sx_call rfl rfl Try.call30 (c_natMul f62 f64 (by omega) (by omega)) (fun v65 w65 p65 => ?_)
 obtain ⟨s65, rfl, os_65, c65⟩ := p65
 have zw65 := c65.size
 have s66 : Chg b6 (b6 + 1) w38 w65 := (Chg.zero (l := b6) (h := (b6 + 1)) ((((d46.t c50).t c56).t c59).t c65))
 refine wl_nil ?_
 refine dx_next s66 ?_
 refine dx_eff 14 rfl (by kernel_rfl) ?_
 have f67 := os_59.ext c65
 refine sx_call rfl rfl Try.call45 (c_reduce f67.sv os_65.sv (by omega) (by omega) (Nat.mul_pos hp1 hp2)) (fun v68 w68 p68 => ?_)
 obtain ⟨s68, t68, ls68, us68, lt68, ut68, rfl, os_68, ot_68, hd68, hl68, c68⟩ := p68
 have zw68 := c68.size
 have s69 : Chg b6 (b6 + 1) w38 w68 := (Chg.zero (l := b6) (h := (b6 + 1)) (((((d46.t c50).t c56).t c59).t c65).t c68))
 refine wl_nil ?_
 refine dx_next s69 ?_
 refine dt 15 rfl rfl rfl rfl s69 (fun _ hS => px_ex2 rfl rfl) ?_
 refine dt 16 rfl rfl rfl rfl s69 (fun _ hS => px_ex2 rfl rfl) ?_
 refine dx_eff 17 rfl (by kernel_rfl) ?_
 have f77 := (((((((fb6.ext c25).ext d38).ext d46).ext c50).ext c56).ext c59).ext c65).ext c68
 refine sx_store (vs := [.bool ((rR (sgI (ng ((x1 * ((e2 : Nat) : Int)) + (x2 * ((e1 : Nat) : Int)))) (((x1 * ((e2 : Nat) : Int)) + (x2 * ((e1 : Nat) : Int))).natAbs)) (e1 * e2)).1), s68, t68]) rfl rfl f77 rfl Try.sizeOf35 (nbl rfl) (one_cons rfl (one_cons os_68.one (one_cons ot_68.one one_nil))) (fun w70 sw70 fw70 cw70 => ?_)
 have zw70 := cw70.size
 have gw70 : Blk w70 b6 [.bool ((rR (sgI (ng ((x1 * ((e2 : Nat) : Int)) + (x2 * ((e1 : Nat) : Int)))) (((x1 * ((e2 : Nat) : Int)) + (x2 * ((e1 : Nat) : Int))).natAbs)) (e1 * e2)).1), s68, t68] 35 := fw70
 have q79 := Chg.step (l := b6) (h := (b6 + 1)) (Chg.zero (l := b6) (h := (b6 + 1)) (((((d46.t c50).t c56).t c59).t c65).t c68)) cw70 (by omega)
 have s78 : Chg b6 (b6 + 1) w38 w70 := q79
 refine wl_nil ?_
 refine dx_next s78 ?_
 refine dt 18 rfl rfl rfl rfl s78 (fun _ hS => px_assign rfl) ?_
 refine dx_done (by kernel_rfl) ?_
 refine q_n (k39 _ _ ?_)
 refine sx_sub (Sub.c 4 rfl (.c 5 rfl .nil)) ?_
 refine sx_retc ?_
 refine sx_ret2 Try.results98 ⟨_, rfl, gw70.loadA (vs := [.bool ((rR (sgI (ng ((x1 * ((e2 : Nat) : Int)) + (x2 * ((e1 : Nat) : Int)))) (((x1 * ((e2 : Nat) : Int)) + (x2 * ((e1 : Nat) : Int))).natAbs)) (e1 * e2)).1), s68, t68]) (look_lit rfl) Try.isAgg35 Try.sizeOf35⟩ rfl ?_
 have hrl := rAdd_len (n1 := ng x1) (z1 := dg x1.natAbs) (y1 := dg e1) (n2 := ng x2) (z2 := dg x2.natAbs) (y2 := dg e2)
 have hre : rAdd (ng x1) (dg x1.natAbs) (dg e1) (ng x2) (dg x2.natAbs) (dg e2) = rR (sgI (ng (x1 * (e2 : Int) + x2 * (e1 : Int))) (x1 * (e2 : Int) + x2 * (e1 : Int)).natAbs) (e1 * e2) := by rw [rAdd_ok hR1 hR2, sgI_ng]
 rw [hre] at hrl ⊢
 have q80 := Chg.step (l := 0) (h := 0) (Chg.zero (l := 0) (h := 0) ((((((((((cb2.t cb4).t cb6).t c25).t d38).t d46).t c50).t c56).t c59).t c65).t c68)) cw70 (by omega)
 have f81 := os_68.chg cw70 (by omega)
 have f82 := ot_68.chg cw70 (by omega)
 exact ⟨_, _, _, _, _, _, rfl, f81, f82, by omega, hrl, q80⟩

theorem c_iRatAddK {w : World} {va1 : Value} {lva1 uva1 : Nat} {x1 : Int} {vd1 : Value} {lvd1 uvd1 : Nat} {e1 : Nat} {va2 : Value} {lva2 uva2 : Nat} {x2 : Int} {vd2 : Value} {lvd2 uvd2 : Nat} {e2 : Nat} (hva1 : Sl w lva1 uva1 va1 (dg x1.natAbs)) (hvd1 : Sl w lvd1 uvd1 vd1 (dg e1)) (hva2 : Sl w lva2 uva2 va2 (dg x2.natAbs)) (hvd2 : Sl w lvd2 uvd2 vd2 (dg e2)) (hR1 : ROk (ng x1) (dg x1.natAbs) (dg e1)) (hR2 : ROk (ng x2) (dg x2.natAbs) (dg e2)) (hl : (dg x1.natAbs).length ≤ 8 ∧ (dg x2.natAbs).length ≤ 8 ∧ (dg e1).length ≤ 8 ∧ (dg e2).length ≤ 8) :
  Ret Try.prog 98 [.agg #[.bool (ng x1), va1, vd1], .agg #[.bool (ng x2), va2, vd2]] w fun v w' => ∃ s t ls us lt ut xx ee, v = .tuple #[.agg #[.bool (ng xx), s, t], .bool (true)] ∧ OwnI w' (ls) (us) s intT (dg (xx).natAbs) ∧ OwnI w' (lt) (ut) t intT (dg ee) ∧ (w.heap.size ≤ ls ∧ us ≤ w'.heap.size ∧ w.heap.size ≤ lt ∧ ut ≤ w'.heap.size ∧ (us ≤ lt ∨ ut ≤ ls)) ∧ (ROk (ng xx) (dg (xx).natAbs) (dg ee)) ∧ (xx * (((e1 * e2 : Nat)) : Int) = (x1 * ((e2 : Nat) : Int) + x2 * ((e1 : Nat) : Int)) * ((ee : Nat) : Int)) ∧ Chg 0 0 w w' := by
 obtain ⟨X, E, hE, hK, _, _, hv⟩ := rAdd_right hR1 hR2 hl.1 hl.2.1 hl.2.2.1 hl.2.2.2; have h := c_iRatAdd (n1 := ng x1) (n2 := ng x2) hva1 hvd1 hva2 hvd2 (by omega); rw [hE] at h
 exact Calls.mono h fun ev w' ⟨v, he, s, t, ls, us, lt, ut, e1, o1, o2, hd, _, hc⟩ => ⟨v, he, s, t, ls, us, lt, ut, X, E, e1, o1, o2, hd, hK, hv, hc⟩

theorem c_iRatSub {w : World} {n1 : Bool} {v1 : Value} {lv1 uv1 : Nat} {z1 : List Int} {d1 : Value} {ld1 ud1 : Nat} {y1 : List Int} {n2 : Bool} {v2 : Value} {lv2 uv2 : Nat} {z2 : List Int} {d2 : Value} {ld2 ud2 : Nat} {y2 : List Int} (hv1 : Sl w lv1 uv1 v1 (z1)) (hd1 : Sl w ld1 ud1 d1 (y1)) (hv2 : Sl w lv2 uv2 v2 (z2)) (hd2 : Sl w ld2 ud2 d2 (y2)) (h63 : z1.length ≤ 4611686018427387904 ∧ y1.length ≤ 4611686018427387904 ∧ z2.length ≤ 4611686018427387904 ∧ y2.length ≤ 4611686018427387904) :
  Ret Try.prog 77 [.agg #[.bool n1, v1, d1], .agg #[.bool n2, v2, d2]] w fun v w' => ∃ s t ls us lt ut, v = .tuple #[.agg #[.bool ((rSub n1 z1 y1 n2 z2 y2).1), s, t], .bool ((rSub n1 z1 y1 n2 z2 y2).2.2.2)] ∧ OwnI w' (ls) (us) s intT ((rSub n1 z1 y1 n2 z2 y2).2.1) ∧ OwnI w' (lt) (ut) t intT ((rSub n1 z1 y1 n2 z2 y2).2.2.1) ∧ (w.heap.size ≤ ls ∧ us ≤ w'.heap.size ∧ w.heap.size ≤ lt ∧ ut ≤ w'.heap.size ∧ (us ≤ lt ∨ ut ≤ ls)) ∧ ((rSub n1 z1 y1 n2 z2 y2).2.1.length ≤ 18 ∧ (rSub n1 z1 y1 n2 z2 y2).2.2.1.length ≤ 18) ∧ Chg 0 0 w w' := by
 have hv10 := hv1.fit
 have hd10 := hd1.fit
 have hv20 := hv2.fit
 have hd20 := hd2.fit
 refine sx_enter Try.func77 rfl Try.ntmps77 (nbl rfl) ?_
 refine sx_seq fun K1 k1 => sx_region ?_
 refine sx_box [.bool n1, v1, d1] rfl rfl rfl (fun b2 w3 eb2 sb2 fb2 cb2 => ?_)
 have zw3 := cb2.size
 refine sx_box [.bool n2, v2, d2] rfl rfl rfl (fun b4 w5 eb4 sb4 fb4 cb4 => ?_)
 have zw5 := cb4.size
 refine sx_alloc [.bool false, (.slice none 0 0), (.slice none 0 0)] rfl Try.zeroValue35 rfl (fun b6 w7 eb6 sb6 fb6 cb6 => ?_)
 have zw7 := cb6.size
 refine av rfl rfl (wl_nil (q_n (k1 _ _ ?_)))
 refine sx_seq fun K8 k8 => ?_
 refine sx_seq fun K9 k9 => sx_region ?_
 have f10 := fb2.ext cb4
 have f11 := f10.ext cb6
 refine sp rfl (px_load rfl (f11.loadA (vs := [.bool n1, v1, d1]) (look_lit rfl) Try.isAgg35 Try.sizeOf35)) ?_
 have f12 := fb4.ext cb6
 refine sp rfl (px_load rfl (f12.loadA (vs := [.bool n2, v2, d2]) (look_lit rfl) Try.isAgg35 Try.sizeOf35)) ?_
 have f13 := hv10.ext cb2
 have f14 := f13.ext cb4
 have f15 := f14.ext cb6
 have f16 := hd10.ext cb2
 have f17 := f16.ext cb4
 have f18 := f17.ext cb6
 have f19 := hv20.ext cb2
 have f20 := f19.ext cb4
 have f21 := f20.ext cb6
 have f22 := hd20.ext cb2
 have f23 := f22.ext cb4
 have f24 := f23.ext cb6
 refine sx_call rfl rfl Try.call50 (c_ratsOk f15 f18 f21 f24 (by omega)) (fun v25 w25 p25 => ?_)
 obtain ⟨rfl, c25⟩ := p25
 have zw25 := c25.size
 refine sp rfl (px_notP rfl) ?_
 refine wl_nil (q_n (k9 _ _ ?_))
 refine sx_condP rfl (fun h66 => ?_) (fun h66 => ?_)
 ·
  refine sx_seq fun K26 k26 => sx_region ?_
  refine sp rfl (px_build rfl (xbld35x  _)) ?_
  have f28 := fb6.ext c25
  refine sx_store (vs := [.bool false, (.slice none 0 0), (.slice none 0 0)]) rfl rfl f28 rfl Try.sizeOf35 (nbl rfl) (o3 rfl rfl rfl) (fun w27 sw27 fw27 cw27 => ?_)
  have zw27 := cw27.size
  have gw27 : Blk w27 b6 [.bool false, (.slice none 0 0), (.slice none 0 0)] 35 := fw27
  refine av rfl rfl (wl_nil (q_n (k26 _ _ ?_)))
  refine sx_retc ?_
  refine q_r (sx_ret2 Try.results77 ⟨_, rfl, gw27.loadA (vs := [.bool false, (.slice none 0 0), (.slice none 0 0)]) (look_lit rfl) Try.isAgg35 Try.sizeOf35⟩ rfl ?_)
  rw [rSub_no h66]
  have q29 := Chg.step (l := 0) (h := 0) (Chg.zero (l := 0) (h := 0) (((cb2.t cb4).t cb6).t c25)) cw27 (by omega)
  exact ⟨_, _, w.heap.size, w.heap.size, w.heap.size, w.heap.size, rfl, Own.nil _ _ _ _ _, Own.nil _ _ _ _ _, by omega, ⟨by simp [noR], by simp [noR]⟩, q29⟩
 have hR := Decidable.not_not.1 h66
 have hR2 := hR.2
 obtain ⟨x2, e2, rfl, rfl, rfl, hp2, hx2, hy2, hg2⟩ := hR2.rat
 have hn2 : (dg (-x2).natAbs).length ≤ 18 := by rw [Int.natAbs_neg]; exact hx2
 refine sx_skip ?_
 refine q_n (k8 _ _ ?_)
 refine sx_seq fun K30 k30 => ?_
 have f31 := f11.ext c25
 have f32 := f12.ext c25
 refine dx_region (fun w' => Chg b6 (b6 + 1) w25 w') (by kernel_rfl) (Chg.zero (Chg.drew _)) ?_
 have d37 := Chg.drew w25
 have s37 : Chg b6 (b6 + 1) w25 (World.drew w25) := Chg.zero (Chg.drew _)
 have y37 : (World.drew w25).heap.size = w25.heap.size := rfl
 generalize World.drew w25 = w37 at *
 have zw37 := d37.size
 refine dt 0 rfl rfl rfl rfl s37 (fun _ hS => px_load rfl ((f31.chg hS (by omega)).loadA (vs := [.bool n1, v1, d1]) (look_lit rfl) Try.isAgg35 Try.sizeOf35)) ?_
 refine dt 1 rfl rfl rfl rfl s37 (fun _ hS => px_load rfl ((f32.chg hS (by omega)).loadA (vs := [.bool (ng x2), v2, d2]) (look_lit rfl) Try.isAgg35 Try.sizeOf35)) ?_
 refine dx_eff 2 rfl (by kernel_rfl) ?_
 have f38 := (f21.ext c25).ext d37
 have f39 := (f24.ext c25).ext d37
 refine sx_call rfl rfl Try.call99 (c_ratNeg f38 f39 (by omega) (by omega)) (fun v40 w40 p40 => ?_)
 obtain ⟨s40, t40, ls40, us40, lt40, ut40, rfl, os_40, ot_40, hd40, c40⟩ := p40
 have zw40 := c40.size
 have s41 : Chg b6 (b6 + 1) w25 w40 := (Chg.zero (l := b6) (h := (b6 + 1)) (d37.t c40))
 refine wl_nil ?_
 refine dx_next s41 ?_
 refine dx_eff 3 rfl (by kernel_rfl) ?_
 have f43 := ((f15.ext c25).ext d37).ext c40
 have f45 := ((f18.ext c25).ext d37).ext c40
 refine sx_call rfl rfl Try.call98 (c_iRatAdd f43 f45 os_40.sv ot_40.sv (by omega)) (fun v46 w46 p46 => ?_)
 obtain ⟨s46, t46, ls46, us46, lt46, ut46, rfl, os_46, ot_46, hd46, hl46, c46⟩ := p46
 have zw46 := c46.size
 have s47 : Chg b6 (b6 + 1) w25 w46 := (Chg.zero (l := b6) (h := (b6 + 1)) ((d37.t c40).t c46))
 refine wl_nil ?_
 refine dx_next s47 ?_
 refine dt 4 rfl rfl rfl rfl s47 (fun _ hS => px_ex2 rfl rfl) ?_
 refine dt 5 rfl rfl rfl rfl s47 (fun _ hS => px_ex2 rfl rfl) ?_
 refine dx_eff 6 rfl (by kernel_rfl) ?_
 have f52 := (((fb6.ext c25).ext d37).ext c40).ext c46
 refine sx_store (vs := [.bool ((rAdd n1 z1 y1 (ng (-x2)) (dg (-x2).natAbs) (dg e2)).1), s46, t46]) rfl rfl f52 rfl Try.sizeOf35 (nbl rfl) (one_cons rfl (one_cons os_46.one (one_cons ot_46.one one_nil))) (fun w48 sw48 fw48 cw48 => ?_)
 have zw48 := cw48.size
 have gw48 : Blk w48 b6 [.bool ((rAdd n1 z1 y1 (ng (-x2)) (dg (-x2).natAbs) (dg e2)).1), s46, t46] 35 := fw48
 have q54 := Chg.step (l := b6) (h := (b6 + 1)) (Chg.zero (l := b6) (h := (b6 + 1)) ((d37.t c40).t c46)) cw48 (by omega)
 have s53 : Chg b6 (b6 + 1) w25 w48 := q54
 refine wl_nil ?_
 refine dx_next s53 ?_
 refine dt 7 rfl rfl rfl rfl s53 (fun _ hS => px_assign rfl) ?_
 refine dx_done (by kernel_rfl) ?_
 refine q_n (k30 _ _ ?_)
 refine sx_sub (Sub.c 4 rfl (.c 5 rfl .nil)) ?_
 refine sx_retc ?_
 refine sx_ret2 Try.results77 ⟨_, rfl, gw48.loadA (vs := [.bool ((rAdd n1 z1 y1 (ng (-x2)) (dg (-x2).natAbs) (dg e2)).1), s46, t46]) (look_lit rfl) Try.isAgg35 Try.sizeOf35⟩ rfl ?_
 have hrl := rSub_len (n1 := n1) (z1 := z1) (y1 := y1) (n2 := ng x2) (z2 := dg x2.natAbs) (y2 := dg e2)
 rw [rSub_ok hR.1 hR2] at hrl ⊢
 have q55 := Chg.step (l := 0) (h := 0) (Chg.zero (l := 0) (h := 0) ((((((cb2.t cb4).t cb6).t c25).t d37).t c40).t c46)) cw48 (by omega)
 have f56 := os_46.chg cw48 (by omega)
 have f57 := ot_46.chg cw48 (by omega)
 exact ⟨_, _, _, _, _, _, rfl, f56, f57, by omega, hrl, q55⟩

theorem c_iRatRest {w : World} {n1 : Bool} {v1 : Value} {lv1 uv1 : Nat} {z1 : List Int} {d1 : Value} {ld1 ud1 : Nat} {y1 : List Int} {m : Int} (hv1 : Sl w lv1 uv1 v1 (z1)) (hd1 : Sl w ld1 ud1 d1 (y1)) (h63 : z1.length ≤ 4611686018427387904 ∧ y1.length ≤ 4611686018427387904) :
  Ret Try.prog 52 [.agg #[.bool n1, v1, d1], .int .i64 m] w fun v w' => ∃ s t u ls us lt ut lu uu, v = .tuple #[.agg #[.bool ((rRest n1 z1 y1 m).1.1), s], .agg #[.bool ((rRest n1 z1 y1 m).2.1.1), t, u], .bool ((rRest n1 z1 y1 m).2.2)] ∧ OwnI w' (ls) (us) s intT ((rRest n1 z1 y1 m).1.2) ∧ OwnI w' (lt) (ut) t intT ((rRest n1 z1 y1 m).2.1.2.1) ∧ OwnI w' (lu) (uu) u intT ((rRest n1 z1 y1 m).2.1.2.2) ∧ (w.heap.size ≤ ls ∧ us ≤ w'.heap.size ∧ w.heap.size ≤ lt ∧ ut ≤ w'.heap.size ∧ w.heap.size ≤ lu ∧ uu ≤ w'.heap.size ∧ us ≤ lt ∧ us ≤ lu ∧ (ut ≤ lu ∨ uu ≤ lt)) ∧ ((rRest n1 z1 y1 m).1.2.length ≤ 19 ∧ (rRest n1 z1 y1 m).2.1.2.1.length ≤ 18 ∧ (rRest n1 z1 y1 m).2.1.2.2.length ≤ 18) ∧ Chg 0 0 w w' := by
 have hv10 := hv1.fit
 have hd10 := hd1.fit
 refine sx_enter Try.func52 rfl Try.ntmps52 (nbl rfl) ?_
 refine sx_seq fun K1 k1 => sx_region ?_
 refine sx_box [.bool n1, v1, d1] rfl rfl rfl (fun b2 w3 eb2 sb2 fb2 cb2 => ?_)
 have zw3 := cb2.size
 refine sx_alloc [.bool false, (.slice none 0 0)] rfl Try.zeroValue25 rfl (fun b4 w5 eb4 sb4 fb4 cb4 => ?_)
 have zw5 := cb4.size
 refine sx_alloc [.bool false, (.slice none 0 0), (.slice none 0 0)] rfl Try.zeroValue35 rfl (fun b6 w7 eb6 sb6 fb6 cb6 => ?_)
 have zw7 := cb6.size
 refine av rfl rfl (wl_nil (q_n (k1 _ _ ?_)))
 refine sx_seq fun K8 k8 => sx_region ?_
 have f9 := fb2.ext cb4
 have f10 := f9.ext cb6
 refine sp rfl (px_load rfl (f10.loadA (vs := [.bool n1, v1, d1]) (look_lit rfl) Try.isAgg35 Try.sizeOf35)) ?_
 refine mv rfl rfl ?_
 have f11 := hv10.ext cb2
 have f12 := f11.ext cb4
 have f13 := f12.ext cb6
 have f14 := hd10.ext cb2
 have f15 := f14.ext cb4
 have f16 := f15.ext cb6
 refine sx_call rfl rfl Try.call12 (c_iRatRound f13 f16 (by omega)) (fun v17 w17 p17 => ?_)
 obtain ⟨s17, rfl, os_17, hl17, c17⟩ := p17
 have zw17 := c17.size
 refine mv rfl rfl (sp rfl (px_ex2 rfl rfl) ?_)
 refine sp rfl (px_ex2 rfl rfl) ?_
 refine sx_alloc [.bool false, (.slice none 0 0)] rfl Try.zeroValue25 rfl (fun b18 w19 eb18 sb18 fb18 cb18 => ?_)
 have zw19 := cb18.size
 have f21 := os_17.ext cb18
 refine sx_store (vs := [.bool ((rRound n1 z1 y1 m).1), s17]) rfl rfl fb18 rfl Try.sizeOf25 (nbl rfl) (one_cons rfl (one_cons f21.one one_nil)) (fun w20 sw20 fw20 cw20 => ?_)
 have zw20 := cw20.size
 have gw20 : Blk w20 b18 [.bool ((rRound n1 z1 y1 m).1), s17] 25 := fw20
 refine av rfl rfl (wl_nil (q_n (k8 _ _ ?_)))
 refine sx_seq fun K22 k22 => ?_
 refine sx_seq fun K23 k23 => sx_region ?_
 refine mv rfl rfl (sp rfl (px_not rfl) ?_)
 refine wl_nil (q_n (k23 _ _ ?_))
 refine sx_sub (Sub.c 2 rfl (.c 4 rfl (.c 5 rfl (.c 6 rfl (.c 7 rfl (.c 20 rfl .nil)))))) ?_
 refine sx_condB rfl (fun h83 => ?_) (fun h83 => ?_)
 ·
  refine sx_seq fun K24 k24 => sx_region ?_
  refine sp rfl (px_build rfl (xbld25x  _)) ?_
  refine sp rfl (px_build rfl (xbld35x  _)) ?_
  have f26 := fb4.ext cb6
  have f28 := (f26.ext c17).ext cb18
  have f29 := f28.chg cw20 (by omega)
  refine sx_store (vs := [.bool false, (.slice none 0 0)]) rfl rfl f29 rfl Try.sizeOf25 (nbl rfl) (o2 rfl rfl) (fun w25 sw25 fw25 cw25 => ?_)
  have zw25 := cw25.size
  have gw25 : Blk w25 b4 [.bool false, (.slice none 0 0)] 25 := fw25
  have f32 := (fb6.ext c17).ext cb18
  have f33 := f32.chg cw20 (by omega)
  have f34 := f33.chg cw25 (by omega)
  refine sx_store (vs := [.bool false, (.slice none 0 0), (.slice none 0 0)]) rfl rfl f34 rfl Try.sizeOf35 (nbl rfl) (o3 rfl rfl rfl) (fun w30 sw30 fw30 cw30 => ?_)
  have zw30 := cw30.size
  have gw30 : Blk w30 b6 [.bool false, (.slice none 0 0), (.slice none 0 0)] 35 := fw30
  refine av rfl rfl (wl_nil (q_n (k24 _ _ ?_)))
  refine sx_retc ?_
  have f35 := gw25.chg cw30 (by omega)
  refine q_r (sx_ret3 Try.results52 ⟨_, rfl, f35.loadA (vs := [.bool false, (.slice none 0 0)]) (look_lit rfl) Try.isAgg25 Try.sizeOf25⟩ ⟨_, rfl, gw30.loadA (vs := [.bool false, (.slice none 0 0), (.slice none 0 0)]) (look_lit rfl) Try.isAgg35 Try.sizeOf35⟩ rfl ?_)
  rw [rRest_no (fun hh => by first | exact bcl hh.1 h83 | exact bcl hh.2.1 h88 | exact bcl hh.2.2 h88x1)]
  have q36 := Chg.step (l := 0) (h := 0) (Chg.zero (l := 0) (h := 0) ((((cb2.t cb4).t cb6).t c17).t cb18)) cw20 (by omega)
  have q37 := Chg.step (l := 0) (h := 0) q36 cw25 (by omega)
  have q38 := Chg.step (l := 0) (h := 0) q37 cw30 (by omega)
  exact ⟨_, _, _, w.heap.size, w.heap.size, w.heap.size, w.heap.size, w.heap.size, w.heap.size, rfl, Own.nil _ _ _ _ _, Own.nil _ _ _ _ _, Own.nil _ _ _ _ _, by omega, ⟨by simp, by simp, by simp⟩, q38⟩
 refine sx_skip ?_
 refine q_n (k22 _ _ ?_)
 refine sx_seq fun K39 k39 => sx_region ?_
 refine sp rfl (px_load rfl (gw20.loadA (vs := [.bool ((rRound n1 z1 y1 m).1), s17]) (look_lit rfl) Try.isAgg25 Try.sizeOf25)) ?_
 have f40 := f21.chg cw20 (by omega)
 refine sx_call rfl rfl Try.call76 (c_iRatInt f40.sv (by omega)) (fun v41 w41 p41 => ?_)
 obtain ⟨s41, t41, ls41, us41, lt41, ut41, rfl, os_41, ot_41, hd41, hl41, c41⟩ := p41
 have zw41 := c41.size
 refine mv rfl rfl (sp rfl (px_ex2 rfl rfl) ?_)
 refine sp rfl (px_ex2 rfl rfl) ?_
 refine sx_alloc [.bool false, (.slice none 0 0), (.slice none 0 0)] rfl Try.zeroValue35 rfl (fun b42 w43 eb42 sb42 fb42 cb42 => ?_)
 have zw43 := cb42.size
 have f45 := ot_41.ext cb42
 have f46 := os_41.ext cb42
 refine sx_store (vs := [.bool ((rInt ((rRound n1 z1 y1 m).1) ((rRound n1 z1 y1 m).2.1)).1), s41, t41]) rfl rfl fb42 rfl Try.sizeOf35 (nbl rfl) (one_cons rfl (one_cons f46.one (one_cons f45.one one_nil))) (fun w44 sw44 fw44 cw44 => ?_)
 have zw44 := cw44.size
 have gw44 : Blk w44 b42 [.bool ((rInt ((rRound n1 z1 y1 m).1) ((rRound n1 z1 y1 m).2.1)).1), s41, t41] 35 := fw44
 refine av rfl rfl (wl_nil (q_n (k39 _ _ ?_)))
 refine sx_seq fun K47 k47 => sx_region ?_
 have f49 := (f10.ext c17).ext cb18
 have f50 := f49.chg cw20 (by omega)
 have f52 := (f50.ext c41).ext cb42
 have f53 := f52.chg cw44 (by omega)
 refine sp rfl (px_load rfl (f53.loadA (vs := [.bool n1, v1, d1]) (look_lit rfl) Try.isAgg35 Try.sizeOf35)) ?_
 refine sp rfl (px_load rfl (gw44.loadA (vs := [.bool ((rInt ((rRound n1 z1 y1 m).1) ((rRound n1 z1 y1 m).2.1)).1), s41, t41]) (look_lit rfl) Try.isAgg35 Try.sizeOf35)) ?_
 have f55 := (f13.ext c17).ext cb18
 have f56 := f55.chg cw20 (by omega)
 have f58 := (f56.ext c41).ext cb42
 have f59 := f58.chg cw44 (by omega)
 have f61 := (f16.ext c17).ext cb18
 have f62 := f61.chg cw20 (by omega)
 have f64 := (f62.ext c41).ext cb42
 have f65 := f64.chg cw44 (by omega)
 have f66 := f46.chg cw44 (by omega)
 have f67 := f45.chg cw44 (by omega)
 refine sx_call rfl rfl Try.call77 (c_iRatSub f59 f65 f66.sv f67.sv (by omega)) (fun v68 w68 p68 => ?_)
 obtain ⟨s68, t68, ls68, us68, lt68, ut68, rfl, os_68, ot_68, hd68, hl68, c68⟩ := p68
 have zw68 := c68.size
 refine mv rfl rfl (sp rfl (px_ex2 rfl rfl) ?_)
 refine sp rfl (px_ex2 rfl rfl) ?_
 refine sx_alloc [.bool false, (.slice none 0 0), (.slice none 0 0)] rfl Try.zeroValue35 rfl (fun b69 w70 eb69 sb69 fb69 cb69 => ?_)
 have zw70 := cb69.size
 have f72 := ot_68.ext cb69
 have f73 := os_68.ext cb69
 refine sx_store (vs := [.bool ((rSub n1 z1 y1 ((rInt ((rRound n1 z1 y1 m).1) ((rRound n1 z1 y1 m).2.1)).1) ((rInt ((rRound n1 z1 y1 m).1) ((rRound n1 z1 y1 m).2.1)).2.1) ((rInt ((rRound n1 z1 y1 m).1) ((rRound n1 z1 y1 m).2.1)).2.2.1)).1), s68, t68]) rfl rfl fb69 rfl Try.sizeOf35 (nbl rfl) (one_cons rfl (one_cons f73.one (one_cons f72.one one_nil))) (fun w71 sw71 fw71 cw71 => ?_)
 have zw71 := cw71.size
 have gw71 : Blk w71 b69 [.bool ((rSub n1 z1 y1 ((rInt ((rRound n1 z1 y1 m).1) ((rRound n1 z1 y1 m).2.1)).1) ((rInt ((rRound n1 z1 y1 m).1) ((rRound n1 z1 y1 m).2.1)).2.1) ((rInt ((rRound n1 z1 y1 m).1) ((rRound n1 z1 y1 m).2.1)).2.2.1)).1), s68, t68] 35 := fw71
 refine av rfl rfl (wl_nil (q_n (k47 _ _ ?_)))
 refine sx_sub (Sub.c 4 rfl (.c 5 rfl (.c 6 rfl (.c 7 rfl (.c 10 rfl (.c 11 rfl (.c 12 rfl .nil))))))) ?_
 refine sx_seq fun K74 k74 => ?_
 refine sx_seq fun K75 k75 => sx_region ?_
 refine mv rfl rfl (sp rfl (px_not rfl) ?_)
 refine mv rfl rfl ?_
 refine sx_tmpB (t := 36) rfl (fun h88 => ?_) (fun h88 => ?_)
 ·
  refine sx_guardF rfl rfl rfl rfl rfl rfl ?_
  refine sx_guardF rfl rfl rfl rfl rfl rfl ?_
  refine sp rfl (px_pick rfl rfl) ?_
  refine wl_nil (q_n (k75 _ _ ?_))
  refine sx_condT rfl ?_
  refine sx_seq fun K76 k76 => sx_region ?_
  refine sp rfl (px_build rfl (xbld25x  _)) ?_
  refine sp rfl (px_build rfl (xbld35x  _)) ?_
  have f78 := fb4.ext cb6
  have f80 := (f78.ext c17).ext cb18
  have f81 := f80.chg cw20 (by omega)
  have f83 := (f81.ext c41).ext cb42
  have f84 := f83.chg cw44 (by omega)
  have f86 := (f84.ext c68).ext cb69
  have f87 := f86.chg cw71 (by omega)
  refine sx_store (vs := [.bool false, (.slice none 0 0)]) rfl rfl f87 rfl Try.sizeOf25 (nbl rfl) (o2 rfl rfl) (fun w77 sw77 fw77 cw77 => ?_)
  have zw77 := cw77.size
  have gw77 : Blk w77 b4 [.bool false, (.slice none 0 0)] 25 := fw77
  have f90 := (fb6.ext c17).ext cb18
  have f91 := f90.chg cw20 (by omega)
  have f93 := (f91.ext c41).ext cb42
  have f94 := f93.chg cw44 (by omega)
  have f96 := (f94.ext c68).ext cb69
  have f97 := f96.chg cw71 (by omega)
  have f98 := f97.chg cw77 (by omega)
  refine sx_store (vs := [.bool false, (.slice none 0 0), (.slice none 0 0)]) rfl rfl f98 rfl Try.sizeOf35 (nbl rfl) (o3 rfl rfl rfl) (fun w88 sw88 fw88 cw88 => ?_)
  have zw88 := cw88.size
  have gw88 : Blk w88 b6 [.bool false, (.slice none 0 0), (.slice none 0 0)] 35 := fw88
  refine av rfl rfl (wl_nil (q_n (k76 _ _ ?_)))
  refine sx_sub (Sub.c 4 rfl (.c 5 rfl (.c 6 rfl (.c 7 rfl (.c 11 rfl .nil))))) ?_
  refine sx_retc ?_
  have f99 := gw77.chg cw88 (by omega)
  refine q_r (sx_ret3 Try.results52 ⟨_, rfl, f99.loadA (vs := [.bool false, (.slice none 0 0)]) (look_lit rfl) Try.isAgg25 Try.sizeOf25⟩ ⟨_, rfl, gw88.loadA (vs := [.bool false, (.slice none 0 0), (.slice none 0 0)]) (look_lit rfl) Try.isAgg35 Try.sizeOf35⟩ rfl ?_)
  rw [rRest_no (fun hh => by first | exact bcl hh.1 h83 | exact bcl hh.2.1 h88 | exact bcl hh.2.2 h88x1)]
  have q100 := Chg.step (l := 0) (h := 0) (Chg.zero (l := 0) (h := 0) ((((cb2.t cb4).t cb6).t c17).t cb18)) cw20 (by omega)
  have q101 := Chg.step (l := 0) (h := 0) q100 (c41.t cb42) (by omega)
  have q102 := Chg.step (l := 0) (h := 0) q101 cw44 (by omega)
  have q103 := Chg.step (l := 0) (h := 0) q102 (c68.t cb69) (by omega)
  have q104 := Chg.step (l := 0) (h := 0) q103 cw71 (by omega)
  have q105 := Chg.step (l := 0) (h := 0) q104 cw77 (by omega)
  have q106 := Chg.step (l := 0) (h := 0) q105 cw88 (by omega)
  exact ⟨_, _, _, w.heap.size, w.heap.size, w.heap.size, w.heap.size, w.heap.size, w.heap.size, rfl, Own.nil _ _ _ _ _, Own.nil _ _ _ _ _, Own.nil _ _ _ _ _, by omega, ⟨by simp, by simp, by simp⟩, q106⟩
 refine sx_guardT rfl rfl rfl ?_
 refine mv rfl rfl ?_
 refine sx_guardT rfl rfl rfl ?_
 refine sp rfl (px_not rfl) ?_
 refine sp rfl (px_pick rfl rfl) ?_
 refine wl_nil (q_n (k75 _ _ ?_))
 refine sx_condB rfl (fun h88x1 => ?_) (fun h88x1 => ?_)
 ·
  refine sx_seq fun K107 k107 => sx_region ?_
  refine sp rfl (px_build rfl (xbld25x  _)) ?_
  refine sp rfl (px_build rfl (xbld35x  _)) ?_
  have f109 := fb4.ext cb6
  have f111 := (f109.ext c17).ext cb18
  have f112 := f111.chg cw20 (by omega)
  have f114 := (f112.ext c41).ext cb42
  have f115 := f114.chg cw44 (by omega)
  have f117 := (f115.ext c68).ext cb69
  have f118 := f117.chg cw71 (by omega)
  refine sx_store (vs := [.bool false, (.slice none 0 0)]) rfl rfl f118 rfl Try.sizeOf25 (nbl rfl) (o2 rfl rfl) (fun w108 sw108 fw108 cw108 => ?_)
  have zw108 := cw108.size
  have gw108 : Blk w108 b4 [.bool false, (.slice none 0 0)] 25 := fw108
  have f121 := (fb6.ext c17).ext cb18
  have f122 := f121.chg cw20 (by omega)
  have f124 := (f122.ext c41).ext cb42
  have f125 := f124.chg cw44 (by omega)
  have f127 := (f125.ext c68).ext cb69
  have f128 := f127.chg cw71 (by omega)
  have f129 := f128.chg cw108 (by omega)
  refine sx_store (vs := [.bool false, (.slice none 0 0), (.slice none 0 0)]) rfl rfl f129 rfl Try.sizeOf35 (nbl rfl) (o3 rfl rfl rfl) (fun w119 sw119 fw119 cw119 => ?_)
  have zw119 := cw119.size
  have gw119 : Blk w119 b6 [.bool false, (.slice none 0 0), (.slice none 0 0)] 35 := fw119
  refine av rfl rfl (wl_nil (q_n (k107 _ _ ?_)))
  refine sx_sub (Sub.c 4 rfl (.c 5 rfl (.c 6 rfl (.c 7 rfl (.c 11 rfl .nil))))) ?_
  refine sx_retc ?_
  have f130 := gw108.chg cw119 (by omega)
  refine q_r (sx_ret3 Try.results52 ⟨_, rfl, f130.loadA (vs := [.bool false, (.slice none 0 0)]) (look_lit rfl) Try.isAgg25 Try.sizeOf25⟩ ⟨_, rfl, gw119.loadA (vs := [.bool false, (.slice none 0 0), (.slice none 0 0)]) (look_lit rfl) Try.isAgg35 Try.sizeOf35⟩ rfl ?_)
  rw [rRest_no (fun hh => by first | exact bcl hh.1 h83 | exact bcl hh.2.1 h88 | exact bcl hh.2.2 h88x1)]
  have q131 := Chg.step (l := 0) (h := 0) (Chg.zero (l := 0) (h := 0) ((((cb2.t cb4).t cb6).t c17).t cb18)) cw20 (by omega)
  have q132 := Chg.step (l := 0) (h := 0) q131 (c41.t cb42) (by omega)
  have q133 := Chg.step (l := 0) (h := 0) q132 cw44 (by omega)
  have q134 := Chg.step (l := 0) (h := 0) q133 (c68.t cb69) (by omega)
  have q135 := Chg.step (l := 0) (h := 0) q134 cw71 (by omega)
  have q136 := Chg.step (l := 0) (h := 0) q135 cw108 (by omega)
  have q137 := Chg.step (l := 0) (h := 0) q136 cw119 (by omega)
  exact ⟨_, _, _, w.heap.size, w.heap.size, w.heap.size, w.heap.size, w.heap.size, w.heap.size, rfl, Own.nil _ _ _ _ _, Own.nil _ _ _ _ _, Own.nil _ _ _ _ _, by omega, ⟨by simp, by simp, by simp⟩, q137⟩
 refine sx_skip ?_
 refine q_n (k74 _ _ ?_)
 refine sx_seq fun K138 k138 => ?_
 have f140 := (f53.ext c68).ext cb69
 have f141 := f140.chg cw71 (by omega)
 have f143 := (gw20.ext c41).ext cb42
 have f144 := f143.chg cw44 (by omega)
 have f146 := (f144.ext c68).ext cb69
 have f147 := f146.chg cw71 (by omega)
 have f149 := (gw44.ext c68).ext cb69
 have f150 := f149.chg cw71 (by omega)
 have f152 := (f59.ext c68).ext cb69
 have f153 := f152.chg cw71 (by omega)
 have f155 := (f65.ext c68).ext cb69
 have f156 := f155.chg cw71 (by omega)
 have f158 := (f40.ext c41).ext cb42
 have f159 := f158.chg cw44 (by omega)
 have f161 := (f159.ext c68).ext cb69
 have f162 := f161.chg cw71 (by omega)
 have f164 := (f66.ext c68).ext cb69
 have f165 := f164.chg cw71 (by omega)
 have f167 := (f67.ext c68).ext cb69
 have f168 := f167.chg cw71 (by omega)
 have f169 := f73.chg cw71 (by omega)
 have f170 := f72.chg cw71 (by omega)
 refine dx_region (fun w' => Chg b4 (b6 + 1) w71 w') (by kernel_rfl) (Chg.zero (Chg.drew _)) ?_
 have d171 := Chg.drew w71
 have s171 : Chg b4 (b6 + 1) w71 (World.drew w71) := Chg.zero (Chg.drew _)
 have y171 : (World.drew w71).heap.size = w71.heap.size := rfl
 generalize World.drew w71 = w171 at *
 have zw171 := d171.size
 refine dt 0 rfl rfl rfl rfl s171 (fun _ hS => px_load rfl ((f147.chg hS (by omega)).loadA (vs := [.bool ((rRound n1 z1 y1 m).1), s17]) (look_lit rfl) Try.isAgg25 Try.sizeOf25)) ?_
 refine dt 1 rfl rfl rfl rfl s171 (fun _ hS => px_load rfl ((gw71.chg hS (by omega)).loadA (vs := [.bool ((rSub n1 z1 y1 ((rInt ((rRound n1 z1 y1 m).1) ((rRound n1 z1 y1 m).2.1)).1) ((rInt ((rRound n1 z1 y1 m).1) ((rRound n1 z1 y1 m).2.1)).2.1) ((rInt ((rRound n1 z1 y1 m).1) ((rRound n1 z1 y1 m).2.1)).2.2.1)).1), s68, t68]) (look_lit rfl) Try.isAgg35 Try.sizeOf35)) ?_
 refine dx_eff 2 rfl (by kernel_rfl) ?_
 have f173 := fb4.ext cb6
 have f175 := (f173.ext c17).ext cb18
 have f176 := f175.chg cw20 (by omega)
 have f178 := (f176.ext c41).ext cb42
 have f179 := f178.chg cw44 (by omega)
 have f181 := (f179.ext c68).ext cb69
 have f182 := f181.chg cw71 (by omega)
 have f183 := f182.ext d171
 have f184 := f162.ext d171
 refine sx_store (vs := [.bool ((rRound n1 z1 y1 m).1), s17]) rfl rfl f183 rfl Try.sizeOf25 (nbl rfl) (one_cons rfl (one_cons f184.one one_nil)) (fun w172 sw172 fw172 cw172 => ?_)
 have zw172 := cw172.size
 have gw172 : Blk w172 b4 [.bool ((rRound n1 z1 y1 m).1), s17] 25 := fw172
 have q186 := Chg.step (l := b4) (h := (b6 + 1)) (Chg.zero (l := b4) (h := (b6 + 1)) d171) cw172 (by omega)
 have s185 : Chg b4 (b6 + 1) w71 w172 := q186
 refine wl_nil ?_
 refine dx_next s185 ?_
 refine dx_eff 3 rfl (by kernel_rfl) ?_
 have f189 := (fb6.ext c17).ext cb18
 have f190 := f189.chg cw20 (by omega)
 have f192 := (f190.ext c41).ext cb42
 have f193 := f192.chg cw44 (by omega)
 have f195 := (f193.ext c68).ext cb69
 have f196 := f195.chg cw71 (by omega)
 have f198 := (f196.ext d171).chg cw172 (by omega)
 have f200 := (f170.ext d171).chg cw172 (by omega)
 have f202 := (f169.ext d171).chg cw172 (by omega)
 refine sx_store (vs := [.bool ((rSub n1 z1 y1 ((rInt ((rRound n1 z1 y1 m).1) ((rRound n1 z1 y1 m).2.1)).1) ((rInt ((rRound n1 z1 y1 m).1) ((rRound n1 z1 y1 m).2.1)).2.1) ((rInt ((rRound n1 z1 y1 m).1) ((rRound n1 z1 y1 m).2.1)).2.2.1)).1), s68, t68]) rfl rfl f198 rfl Try.sizeOf35 (nbl rfl) (one_cons rfl (one_cons f202.one (one_cons f200.one one_nil))) (fun w187 sw187 fw187 cw187 => ?_)
 have zw187 := cw187.size
 have gw187 : Blk w187 b6 [.bool ((rSub n1 z1 y1 ((rInt ((rRound n1 z1 y1 m).1) ((rRound n1 z1 y1 m).2.1)).1) ((rInt ((rRound n1 z1 y1 m).1) ((rRound n1 z1 y1 m).2.1)).2.1) ((rInt ((rRound n1 z1 y1 m).1) ((rRound n1 z1 y1 m).2.1)).2.2.1)).1), s68, t68] 35 := fw187
 have q204 := Chg.step (l := b4) (h := (b6 + 1)) (Chg.zero (l := b4) (h := (b6 + 1)) d171) cw172 (by omega)
 have q205 := Chg.step (l := b4) (h := (b6 + 1)) q204 cw187 (by omega)
 have s203 : Chg b4 (b6 + 1) w71 w187 := q205
 refine wl_nil ?_
 refine dx_next s203 ?_
 refine dt 4 rfl rfl rfl rfl s203 (fun _ hS => px_assign rfl) ?_
 refine dx_done (by kernel_rfl) ?_
 refine q_n (k138 _ _ ?_)
 refine sx_sub (Sub.c 4 rfl (.c 5 rfl (.c 6 rfl .nil))) ?_
 refine sx_retc ?_
 have f206 := gw172.chg cw187 (by omega)
 refine sx_ret3 Try.results52 ⟨_, rfl, f206.loadA (vs := [.bool ((rRound n1 z1 y1 m).1), s17]) (look_lit rfl) Try.isAgg25 Try.sizeOf25⟩ ⟨_, rfl, gw187.loadA (vs := [.bool ((rSub n1 z1 y1 ((rInt ((rRound n1 z1 y1 m).1) ((rRound n1 z1 y1 m).2.1)).1) ((rInt ((rRound n1 z1 y1 m).1) ((rRound n1 z1 y1 m).2.1)).2.1) ((rInt ((rRound n1 z1 y1 m).1) ((rRound n1 z1 y1 m).2.1)).2.2.1)).1), s68, t68]) (look_lit rfl) Try.isAgg35 Try.sizeOf35⟩ rfl ?_
 have hrl := rRest_len (n := n1) (z := z1) (y := y1) (m := m)
 rw [rRest_ok (bnot_f h83) (bnot_f h88) (bnot_f h88x1)] at hrl ⊢
 have q207 := Chg.step (l := 0) (h := 0) (Chg.zero (l := 0) (h := 0) ((((cb2.t cb4).t cb6).t c17).t cb18)) cw20 (by omega)
 have q208 := Chg.step (l := 0) (h := 0) q207 (c41.t cb42) (by omega)
 have q209 := Chg.step (l := 0) (h := 0) q208 cw44 (by omega)
 have q210 := Chg.step (l := 0) (h := 0) q209 (c68.t cb69) (by omega)
 have q211 := Chg.step (l := 0) (h := 0) q210 cw71 (by omega)
 have q212 := Chg.step (l := 0) (h := 0) q211 d171 (by omega)
 have q213 := Chg.step (l := 0) (h := 0) q212 cw172 (by omega)
 have q214 := Chg.step (l := 0) (h := 0) q213 cw187 (by omega)
 have f215 := f184.chg cw172 (by omega)
 have f216 := f215.chg cw187 (by omega)
 have f217 := f202.chg cw187 (by omega)
 have f218 := f200.chg cw187 (by omega)
 exact ⟨_, _, _, _, _, _, _, _, _, rfl, f216, f217, f218, by omega, hrl, q214⟩

theorem c_iRatRestK {w : World} {va : Value} {lva uva : Nat} {x : Int} {vd : Value} {lvd uvd : Nat} {e : Nat} {m : Int} (hva : Sl w lva uva va (dg x.natAbs)) (hvd : Sl w lvd uvd vd (dg e)) (hR : ROk (ng x) (dg x.natAbs) (dg e)) (hm : 0 ≤ m ∧ m ≤ 6) (hx : (dg x.natAbs).length ≤ 5) :
  Ret Try.prog 52 [.agg #[.bool (ng x), va, vd], .int .i64 m] w fun v w' => ∃ s t u ls us lt ut lu uu, v = .tuple #[.agg #[.bool (ng (rqI x e m)), s], .agg #[.bool (ng (x + -rqI x e m * ((e : Nat) : Int))), t, u], .bool (true)] ∧ OwnI w' (ls) (us) s intT (dg (rqI x e m).natAbs) ∧ OwnI w' (lt) (ut) t intT (dg (x + -rqI x e m * ((e : Nat) : Int)).natAbs) ∧ OwnI w' (lu) (uu) u intT (dg e) ∧ (w.heap.size ≤ ls ∧ us ≤ w'.heap.size ∧ w.heap.size ≤ lt ∧ ut ≤ w'.heap.size ∧ w.heap.size ≤ lu ∧ uu ≤ w'.heap.size ∧ us ≤ lt ∧ us ≤ lu ∧ (ut ≤ lu ∨ uu ≤ lt)) ∧ ((dg (rqI x e m).natAbs).length ≤ 6 ∧ (dg (x + -rqI x e m * ((e : Nat) : Int)).natAbs).length ≤ (dg e).length) ∧ (ROk (ng (x + -rqI x e m * ((e : Nat) : Int))) (dg (x + -rqI x e m * ((e : Nat) : Int)).natAbs) (dg e)) ∧ Chg 0 0 w w' := by
 have hi := ROk_iff.1 hR; have hq : (dg (rqI x e m).natAbs).length ≤ 6 := by unfold rqI; rw [sgI_abs]; exact rq_len hx
 have hln := rest_len (x := x) hi.1 m; have hN := ROk_rest (Q := rqI x e m) hR (by omega); have h := c_iRatRest (n1 := ng x) hva hvd (m := m) (by omega); rw [rRest_right hR hm hx] at h
 exact Calls.mono h fun ev w' ⟨v, he, s, t, u, ls, us, lt, ut, lu, uu, e1, o1, o2, o3, hd, _, hc⟩ => ⟨v, he, s, t, u, ls, us, lt, ut, lu, uu, e1, o1, o2, o3, hd, ⟨hq, hln⟩, hN, hc⟩

theorem c_intSign {w : World} {va : Value} {lva uva : Nat} {x : Int} (hva : Sl w lva uva va (dg x.natAbs)) (hbx : (dg x.natAbs).length ≤ 1000) :
  Ret Try.prog 49 [.agg #[.bool (ng x), va]] w fun v w' => v = .int .i64 ((x).sign) ∧ Chg 0 0 w w' := by
 have hva0 := hva.fit
 refine sx_enter Try.func49 rfl Try.ntmps49 (nbl rfl) ?_
 refine sx_seq fun K1 k1 => sx_region ?_
 refine sx_box [.bool (ng x), va] rfl rfl rfl (fun b2 w3 eb2 sb2 fb2 cb2 => ?_)
 have zw3 := cb2.size
 refine av rfl rfl (wl_nil (q_n (k1 _ _ ?_)))
 refine sx_seq fun K4 k4 => ?_
 refine sx_block ?_
 refine sx_seq fun K5 k5 => sx_region ?_
 refine sp rfl (px_field rfl xfld25x1) ?_
 refine sp rfl (px_load rfl (fb2.load1 rfl Try.isAgg23)) ?_
 have f6 := hva0.ext cb2
 refine sp rfl (px_len rfl Try.underlying23 f6) ?_
 refine sp rfl (px_eq rfl rfl) ?_
 refine av rfl rfl (wl_nil (q_n (k5 _ _ ?_)))
 refine sx_condP rfl (fun h101 => ?_) (fun h101 => ?_)
 ·
  refine sx_seq fun K7 k7 => sx_region ?_
  refine av rfl rfl (wl_nil (q_n (k7 _ _ ?_)))
  refine sx_retc ?_
  refine q_br (q_r (sx_ret1 Try.results49 rfl ?_))
  exact ⟨(by rw [sign_z (by omega)]), cb2⟩
 refine sx_seq fun K8 k8 => sx_region ?_
 refine sp rfl (px_field rfl xfld25x0) ?_
 refine sp rfl (px_load rfl (fb2.load1 rfl Try.isAgg4)) ?_
 refine av rfl rfl (wl_nil (q_n (k8 _ _ ?_)))
 refine sx_condB rfl (fun h103 => ?_) (fun h103 => ?_)
 ·
  refine sx_seq fun K9 k9 => sx_region ?_
  refine av rfl rfl (wl_nil (q_n (k9 _ _ ?_)))
  refine sx_retc ?_
  refine q_br (q_r (sx_ret1 Try.results49 rfl ?_))
  exact ⟨(by rw [sign_n h103]), cb2⟩
 refine sx_skip ?_
 refine q_bn (q_n (k4 _ _ ?_))
 refine sx_seq fun K10 k10 => sx_region ?_
 refine av rfl rfl (wl_nil (q_n (k10 _ _ ?_)))
 refine sx_retc ?_
 refine sx_ret1 Try.results49 rfl ?_
 exact ⟨(by rw [sign_p (by omega) h103]), cb2⟩

theorem c_iRatSignK {w : World} {va : Value} {lva uva : Nat} {x : Int} {vd : Value} {lvd uvd : Nat} {e : Nat} (hva : Sl w lva uva va (dg x.natAbs)) (hvd : Sl w lvd uvd vd (dg e)) (hR : ROk (ng x) (dg x.natAbs) (dg e)) :
  Ret Try.prog 78 [.agg #[.bool (ng x), va, vd]] w fun v w' => v = .int .i64 ((x).sign) ∧ Chg 0 0 w w' := by
 have hva0 := hva.fit
 have hvd0 := hvd.fit
 have hi := ROk_iff.1 hR
 refine sx_enter Try.func78 rfl Try.ntmps78 (nbl rfl) ?_
 refine sx_seq fun K1 k1 => sx_region ?_
 refine sx_box [.bool (ng x), va, vd] rfl rfl rfl (fun b2 w3 eb2 sb2 fb2 cb2 => ?_)
 have zw3 := cb2.size
 refine av rfl rfl (wl_nil (q_n (k1 _ _ ?_)))
 refine sx_seq fun K4 k4 => ?_
 refine sx_seq fun K5 k5 => sx_region ?_
 refine sp rfl (px_load rfl (fb2.loadA (vs := [.bool (ng x), va, vd]) (look_lit rfl) Try.isAgg35 Try.sizeOf35)) ?_
 have f6 := hva0.ext cb2
 have f7 := hvd0.ext cb2
 refine sx_call rfl rfl Try.call46 (c_iRatOk f6 f7 (by omega)) (fun v8 w8 p8 => ?_)
 obtain ⟨rfl, c8⟩ := p8
 have zw8 := c8.size
 refine sp rfl (px_notP rfl) ?_
 refine wl_nil (q_n (k5 _ _ ?_))
 have h106 : ¬ (¬ (ROk (ng x) (dg x.natAbs) (dg e))) := fun h => h hR
 refine sx_condPF rfl h106 ?_
 refine sx_skip ?_
 refine q_n (k4 _ _ ?_)
 refine sx_seq fun K9 k9 => sx_region ?_
 refine sp rfl (px_field rfl xfld35x0) ?_
 have f10 := fb2.ext c8
 refine sp rfl (px_load rfl (f10.loadA (vs := [.bool (ng x), va]) (look_lit rfl) Try.isAgg25 Try.sizeOf25)) ?_
 have f11 := f6.ext c8
 refine sx_call rfl rfl Try.call49 (c_intSign f11 (by omega)) (fun v12 w12 p12 => ?_)
 obtain ⟨rfl, c12⟩ := p12
 have zw12 := c12.size
 refine av rfl rfl (wl_nil (q_n (k9 _ _ ?_)))
 refine sx_retc ?_
 refine sx_ret1 Try.results78 rfl ?_
 exact ⟨rfl, ((cb2.t c8).t c12)⟩

theorem c_iRatNegK {w : World} {va : Value} {lva uva : Nat} {x : Int} {vd : Value} {lvd uvd : Nat} {e : Nat} (hva : Sl w lva uva va (dg x.natAbs)) (hvd : Sl w lvd uvd vd (dg e)) (hR : ROk (ng x) (dg x.natAbs) (dg e)) :
  Ret Try.prog 80 [.agg #[.bool (ng x), va, vd]] w fun v w' => ∃ s t ls us lt ut, v = .tuple #[.agg #[.bool (ng (-x)), s, t], .bool (true)] ∧ OwnI w' (ls) (us) s intT (dg (-x).natAbs) ∧ OwnI w' (lt) (ut) t intT (dg e) ∧ (w.heap.size ≤ ls ∧ us ≤ w'.heap.size ∧ w.heap.size ≤ lt ∧ ut ≤ w'.heap.size ∧ (us ≤ lt ∨ ut ≤ ls)) ∧ (ROk (ng (-x)) (dg (-x).natAbs) (dg e)) ∧ Chg 0 0 w w' := by
 have hva0 := hva.fit
 have hvd0 := hvd.fit
 have hi := ROk_iff.1 hR
 refine sx_enter Try.func80 rfl Try.ntmps80 (nbl rfl) ?_
 refine sx_seq fun K1 k1 => sx_region ?_
 refine sx_box [.bool (ng x), va, vd] rfl rfl rfl (fun b2 w3 eb2 sb2 fb2 cb2 => ?_)
 have zw3 := cb2.size
 refine sx_alloc [.bool false, (.slice none 0 0), (.slice none 0 0)] rfl Try.zeroValue35 rfl (fun b4 w5 eb4 sb4 fb4 cb4 => ?_)
 have zw5 := cb4.size
 refine av rfl rfl (wl_nil (q_n (k1 _ _ ?_)))
 refine sx_seq fun K6 k6 => ?_
 refine sx_seq fun K7 k7 => sx_region ?_
 have f8 := fb2.ext cb4
 refine sp rfl (px_load rfl (f8.loadA (vs := [.bool (ng x), va, vd]) (look_lit rfl) Try.isAgg35 Try.sizeOf35)) ?_
 have f9 := hva0.ext cb2
 have f10 := f9.ext cb4
 have f11 := hvd0.ext cb2
 have f12 := f11.ext cb4
 refine sx_call rfl rfl Try.call46 (c_iRatOk f10 f12 (by omega)) (fun v13 w13 p13 => ?_)
 obtain ⟨rfl, c13⟩ := p13
 have zw13 := c13.size
 refine sp rfl (px_notP rfl) ?_
 refine wl_nil (q_n (k7 _ _ ?_))
 have h90 : ¬ (¬ (ROk (ng x) (dg x.natAbs) (dg e))) := fun h => h hR
 refine sx_condPF rfl h90 ?_
 refine sx_skip ?_
 refine q_n (k6 _ _ ?_)
 refine sx_seq fun K14 k14 => sx_region ?_
 have f15 := f8.ext c13
 refine sp rfl (px_load rfl (f15.loadA (vs := [.bool (ng x), va, vd]) (look_lit rfl) Try.isAgg35 Try.sizeOf35)) ?_
 have f16 := f10.ext c13
 have f17 := f12.ext c13
 refine sx_call rfl rfl Try.call99 (c_ratNeg f16 f17 (by omega) (by omega)) (fun v18 w18 p18 => ?_)
 obtain ⟨s18, t18, ls18, us18, lt18, ut18, rfl, os_18, ot_18, hd18, c18⟩ := p18
 have zw18 := c18.size
 have f21 := (fb4.ext c13).ext c18
 refine sx_store (vs := [.bool (ng (-x)), s18, t18]) rfl rfl f21 rfl Try.sizeOf35 (nbl rfl) (one_cons rfl (one_cons os_18.one (one_cons ot_18.one one_nil))) (fun w19 sw19 fw19 cw19 => ?_)
 have zw19 := cw19.size
 have gw19 : Blk w19 b4 [.bool (ng (-x)), s18, t18] 35 := fw19
 refine av rfl rfl (wl_nil (q_n (k14 _ _ ?_)))
 refine sx_retc ?_
 refine sx_ret2 Try.results80 ⟨_, rfl, gw19.loadA (vs := [.bool (ng (-x)), s18, t18]) (look_lit rfl) Try.isAgg35 Try.sizeOf35⟩ rfl ?_
 have q22 := Chg.step (l := 0) (h := 0) (Chg.zero (l := 0) (h := 0) (((cb2.t cb4).t c13).t c18)) cw19 (by omega)
 have f23 := os_18.chg cw19 (by omega)
 have f24 := ot_18.chg cw19 (by omega)
 exact ⟨_, _, _, _, _, _, rfl, f23, f24, by omega, ROk_neg hR, q22⟩

theorem c_must {w : World} {n : Bool} {va : Value} {lva uva : Nat} {z : List Int} {vd : Value} {lvd uvd : Nat} {y : List Int} (hva : Sl w lva uva va (z)) (hvd : Sl w lvd uvd vd (y)) :
  Ret Try.prog 79 [.agg #[.bool n, va, vd], .bool true] w fun v w' => v = .agg #[.bool (n), va, vd] ∧ Chg 0 0 w w' := by
 have hva0 := hva.fit
 have hvd0 := hvd.fit
 refine sx_enter Try.func79 rfl Try.ntmps79 (nbl rfl) ?_
 refine sx_seq fun K1 k1 => sx_region ?_
 refine sx_box [.bool n, va, vd] rfl rfl rfl (fun b2 w3 eb2 sb2 fb2 cb2 => ?_)
 have zw3 := cb2.size
 refine sx_alloc [.bool false, (.slice none 0 0), (.slice none 0 0)] rfl Try.zeroValue35 rfl (fun b4 w5 eb4 sb4 fb4 cb4 => ?_)
 have zw5 := cb4.size
 refine wl_nil (q_n (k1 _ _ ?_))
 refine sx_seq fun K6 k6 => ?_
 refine sx_seq fun K7 k7 => sx_region ?_
 refine mv rfl rfl (sp rfl (px_not rfl) ?_)
 refine wl_nil (q_n (k7 _ _ ?_))
 refine sx_condF rfl ?_
 refine sx_skip ?_
 refine q_n (k6 _ _ ?_)
 refine sx_seq fun K8 k8 => sx_region ?_
 have f9 := fb2.ext cb4
 refine sp rfl (px_load rfl (f9.loadA (vs := [.bool n, va, vd]) (look_lit rfl) Try.isAgg35 Try.sizeOf35)) ?_
 have f11 := hvd0.ext cb2
 have f12 := f11.ext cb4
 have f13 := hva0.ext cb2
 have f14 := f13.ext cb4
 refine sx_store (vs := [.bool n, va, vd]) rfl rfl fb4 rfl Try.sizeOf35 (nbl rfl) (one_cons rfl (one_cons f14.one (one_cons f12.one one_nil))) (fun w10 sw10 fw10 cw10 => ?_)
 have zw10 := cw10.size
 have gw10 : Blk w10 b4 [.bool n, va, vd] 35 := fw10
 refine wl_nil (q_n (k8 _ _ ?_))
 refine sx_retc ?_
 refine sx_ret1 Try.results79 ⟨_, rfl, gw10.loadA (vs := [.bool n, va, vd]) (look_lit rfl) Try.isAgg35 Try.sizeOf35⟩ ?_
 have q15 := Chg.step (l := 0) (h := 0) (Chg.zero (l := 0) (h := 0) (cb2.t cb4)) cw10 (by omega)
 exact ⟨rfl, q15⟩

theorem c_size {w : World} {va : Value} {lva uva : Nat} {x : Int} {vd : Value} {lvd uvd : Nat} {e : Nat} (hva : Sl w lva uva va (dg x.natAbs)) (hvd : Sl w lvd uvd vd (dg e)) (hR : ROk (ng x) (dg x.natAbs) (dg e)) :
  Ret Try.prog 53 [.agg #[.bool (ng x), va, vd]] w fun v w' => ∃ s t, v = .agg #[.bool (ng ((x).natAbs : Int)), s, t] ∧ Sl w' (0) (w'.heap.size) s (dg (((x).natAbs : Int)).natAbs) ∧ Sl w' (0) (w'.heap.size) t (dg e) ∧ (ROk (ng ((x).natAbs : Int)) (dg (((x).natAbs : Int)).natAbs) (dg e)) ∧ Chg 0 0 w w' := by
 have hva0 := hva.fit
 have hvd0 := hvd.fit
 refine sx_enter Try.func53 rfl Try.ntmps53 (nbl rfl) ?_
 refine sx_seq fun K1 k1 => sx_region ?_
 refine sx_box [.bool (ng x), va, vd] rfl rfl rfl (fun b2 w3 eb2 sb2 fb2 cb2 => ?_)
 have zw3 := cb2.size
 refine sx_alloc [.bool false, (.slice none 0 0), (.slice none 0 0)] rfl Try.zeroValue35 rfl (fun b4 w5 eb4 sb4 fb4 cb4 => ?_)
 have zw5 := cb4.size
 refine wl_nil (q_n (k1 _ _ ?_))
 refine sx_seq fun K6 k6 => ?_
 refine sx_seq fun K7 k7 => sx_region ?_
 have f8 := fb2.ext cb4
 refine sp rfl (px_load rfl (f8.loadA (vs := [.bool (ng x), va, vd]) (look_lit rfl) Try.isAgg35 Try.sizeOf35)) ?_
 have f9 := hva0.ext cb2
 have f10 := f9.ext cb4
 have f11 := hvd0.ext cb2
 have f12 := f11.ext cb4
 refine sx_call rfl rfl Try.call78 (c_iRatSignK f10 f12 (by assumption)) (fun v13 w13 p13 => ?_)
 obtain ⟨rfl, c13⟩ := p13
 have zw13 := c13.size
 refine sp rfl (px_lt rfl rfl) ?_
 refine wl_nil (q_n (k7 _ _ ?_))
 refine sx_condP rfl (fun h22 => ?_) (fun h22 => ?_)
 ·
  refine sx_seq fun K14 k14 => sx_region ?_
  have f15 := f8.ext c13
  refine sp rfl (px_load rfl (f15.loadA (vs := [.bool (ng x), va, vd]) (look_lit rfl) Try.isAgg35 Try.sizeOf35)) ?_
  have f16 := f10.ext c13
  have f17 := f12.ext c13
  refine sx_call rfl rfl Try.call80 (c_iRatNegK f16 f17 (by assumption)) (fun v18 w18 p18 => ?_)
  obtain ⟨s18, t18, ls18, us18, lt18, ut18, rfl, os_18, ot_18, hd18, hK18, c18⟩ := p18
  have zw18 := c18.size
  refine sp rfl (px_ex2 rfl rfl) ?_
  refine sp rfl (px_ex2 rfl rfl) ?_
  refine sx_call rfl rfl Try.call79 (c_must os_18.sv ot_18.sv) (fun v19 w19 p19 => ?_)
  obtain ⟨rfl, c19⟩ := p19
  have zw19 := c19.size
  have f23 := ((fb4.ext c13).ext c18).ext c19
  have f24 := ot_18.ext c19
  have f25 := os_18.ext c19
  refine sx_store (vs := [.bool (ng (-x)), s18, t18]) rfl rfl f23 rfl Try.sizeOf35 (nbl rfl) (one_cons rfl (one_cons f25.one (one_cons f24.one one_nil))) (fun w20 sw20 fw20 cw20 => ?_)
  have zw20 := cw20.size
  have gw20 : Blk w20 b4 [.bool (ng (-x)), s18, t18] 35 := fw20
  refine wl_nil (q_n (k14 _ _ ?_))
  refine sx_retc ?_
  refine q_r (sx_ret1 Try.results53 ⟨_, rfl, gw20.loadA (vs := [.bool (ng (-x)), s18, t18]) (look_lit rfl) Try.isAgg35 Try.sizeOf35⟩ ?_)
  have e1 : -x = ((x.natAbs : Nat) : Int) := by have := Int.sign_neg_iff.1 h22; omega
  rw [← e1]
  have q26 := Chg.step (l := 0) (h := 0) (Chg.zero (l := 0) (h := 0) ((((cb2.t cb4).t c13).t c18).t c19)) cw20 (by omega)
  have f27 := f25.chg cw20 (by omega)
  have f28 := f24.chg cw20 (by omega)
  exact ⟨_, _, rfl, (Sv.mono f27.sv (by omega) (by omega)), (Sv.mono f28.sv (by omega) (by omega)), by rw [e1]; exact ROk_abs hR, q26⟩
 refine sx_skip ?_
 refine q_n (k6 _ _ ?_)
 refine sx_seq fun K29 k29 => sx_region ?_
 have f30 := f8.ext c13
 refine sp rfl (px_load rfl (f30.loadA (vs := [.bool (ng x), va, vd]) (look_lit rfl) Try.isAgg35 Try.sizeOf35)) ?_
 have f32 := fb4.ext c13
 have f33 := f12.ext c13
 have f34 := f10.ext c13
 refine sx_store (vs := [.bool (ng x), va, vd]) rfl rfl f32 rfl Try.sizeOf35 (nbl rfl) (one_cons rfl (one_cons f34.one (one_cons f33.one one_nil))) (fun w31 sw31 fw31 cw31 => ?_)
 have zw31 := cw31.size
 have gw31 : Blk w31 b4 [.bool (ng x), va, vd] 35 := fw31
 refine wl_nil (q_n (k29 _ _ ?_))
 refine sx_retc ?_
 refine sx_ret1 Try.results53 ⟨_, rfl, gw31.loadA (vs := [.bool (ng x), va, vd]) (look_lit rfl) Try.isAgg35 Try.sizeOf35⟩ ?_
 have e1 : x = ((x.natAbs : Nat) : Int) := by by_cases h : x < 0; exact absurd (Int.sign_neg_iff.2 h) h22; omega
 rw [← e1]
 have q35 := Chg.step (l := 0) (h := 0) (Chg.zero (l := 0) (h := 0) ((cb2.t cb4).t c13)) cw31 (by omega)
 have f36 := f34.chg cw31 (by omega)
 have f37 := f33.chg cw31 (by omega)
 exact ⟨_, _, rfl, (Sv.mono f36 (by omega) (by omega)), (Sv.mono f37 (by omega) (by omega)), hR, q35⟩

theorem c_iIntSignK {w : World} {va : Value} {lva uva : Nat} {x : Int} (hva : Sl w lva uva va (dg x.natAbs)) (hbx : (dg x.natAbs).length ≤ 50) :
  Ret Try.prog 13 [.agg #[.bool (ng x), va]] w fun v w' => v = .int .i64 ((x).sign) ∧ Chg 0 0 w w' := by
 have hva0 := hva.fit
 refine sx_enter Try.func13 rfl Try.ntmps13 (nbl rfl) ?_
 refine sx_seq fun K1 k1 => sx_region ?_
 refine sx_box [.bool (ng x), va] rfl rfl rfl (fun b2 w3 eb2 sb2 fb2 cb2 => ?_)
 have zw3 := cb2.size
 refine av rfl rfl (wl_nil (q_n (k1 _ _ ?_)))
 refine sx_seq fun K4 k4 => ?_
 refine sx_seq fun K5 k5 => sx_region ?_
 refine sp rfl (px_load rfl (fb2.loadA (vs := [.bool (ng x), va]) (look_lit rfl) Try.isAgg25 Try.sizeOf25)) ?_
 have f6 := hva0.ext cb2
 refine sx_call rfl rfl Try.call25 (c_iIntOk f6 (by omega)) (fun v7 w7 p7 => ?_)
 obtain ⟨rfl, c7⟩ := p7
 have zw7 := c7.size
 refine sp rfl (px_notP rfl) ?_
 refine wl_nil (q_n (k5 _ _ ?_))
 have h122 : ¬ (¬ (IOk (ng x) (dg x.natAbs))) := fun h => h (IOk_ng (by omega))
 refine sx_condPF rfl h122 ?_
 refine sx_skip ?_
 refine q_n (k4 _ _ ?_)
 refine sx_seq fun K8 k8 => sx_region ?_
 have f9 := fb2.ext c7
 refine sp rfl (px_load rfl (f9.loadA (vs := [.bool (ng x), va]) (look_lit rfl) Try.isAgg25 Try.sizeOf25)) ?_
 have f10 := f6.ext c7
 refine sx_call rfl rfl Try.call49 (c_intSign f10 (by omega)) (fun v11 w11 p11 => ?_)
 obtain ⟨rfl, c11⟩ := p11
 have zw11 := c11.size
 refine av rfl rfl (wl_nil (q_n (k8 _ _ ?_)))
 refine sx_retc ?_
 refine sx_ret1 Try.results13 rfl ?_
 exact ⟨rfl, ((cb2.t c7).t c11)⟩

theorem c_intCmp {w : World} {va : Value} {lva uva : Nat} {x : Int} {vb : Value} {lvb uvb : Nat} {y : Int} (hva : Sl w lva uva va (dg x.natAbs)) (hvb : Sl w lvb uvb vb (dg y.natAbs)) (hbx : (dg x.natAbs).length ≤ 900) (hby : (dg y.natAbs).length ≤ 900) :
  Ret Try.prog 41 [.agg #[.bool (ng x), va], .agg #[.bool (ng y), vb]] w fun v w' => v = .int .i64 (cmpI x y) ∧ Chg 0 0 w w' := by
 have hva0 := hva.fit
 have hvb0 := hvb.fit
 refine sx_enter Try.func41 rfl Try.ntmps41 (nbl rfl) ?_
 refine sx_seq fun K1 k1 => sx_region ?_
 refine sx_box [.bool (ng x), va] rfl rfl rfl (fun b2 w3 eb2 sb2 fb2 cb2 => ?_)
 have zw3 := cb2.size
 refine sx_box [.bool (ng y), vb] rfl rfl rfl (fun b4 w5 eb4 sb4 fb4 cb4 => ?_)
 have zw5 := cb4.size
 refine av rfl rfl (wl_nil (q_n (k1 _ _ ?_)))
 refine sx_seq fun K6 k6 => ?_
 have f7 := fb2.ext cb4
 have f8 := hva0.ext cb2
 have f9 := f8.ext cb4
 have f10 := hvb0.ext cb2
 have f11 := f10.ext cb4
 refine dx_region (fun w' => Chg 0 0 w5 w') (by kernel_rfl) (Chg.zero (Chg.drew _)) ?_
 have d12 := Chg.drew w5
 have s12 : Chg 0 0 w5 (World.drew w5) := Chg.zero (Chg.drew _)
 have y12 : (World.drew w5).heap.size = w5.heap.size := rfl
 generalize World.drew w5 = w12 at *
 have zw12 := d12.size
 refine dt 0 rfl rfl rfl rfl s12 (fun _ hS => px_load rfl ((f7.chg hS (by omega)).loadA (vs := [.bool (ng x), va]) (look_lit rfl) Try.isAgg25 Try.sizeOf25)) ?_
 refine dt 1 rfl rfl rfl rfl s12 (fun _ hS => px_load rfl ((fb4.chg hS (by omega)).loadA (vs := [.bool (ng y), vb]) (look_lit rfl) Try.isAgg25 Try.sizeOf25)) ?_
 refine dx_eff 2 rfl (by kernel_rfl) ?_
 have f13 := f11.ext d12
 refine sx_call rfl rfl Try.call58 (c_intNeg f13 (by omega)) (fun v14 w14 p14 => ?_)
 obtain ⟨s14, rfl, os_14, c14⟩ := p14
 have zw14 := c14.size
 have s15 : Chg 0 0 w5 w14 := (d12.t c14)
 refine wl_nil ?_
 refine dx_next s15 ?_
 refine dx_eff 3 rfl (by kernel_rfl) ?_
 have f17 := (f9.ext d12).ext c14
 refine sx_call rfl rfl Try.call57 (c_intAdd f17 os_14.sv (by omega) (by rw [Int.natAbs_neg]; omega)) (fun v18 w18 p18 => ?_)
 obtain ⟨s18, rfl, os_18, c18⟩ := p18
 have zw18 := c18.size
 have s19 : Chg 0 0 w5 w18 := ((d12.t c14).t c18)
 refine wl_nil ?_
 refine dx_next s19 ?_
 refine dx_eff 4 rfl (by kernel_rfl) ?_
 refine sx_call rfl rfl Try.call49 (c_intSign os_18.sv (by have h := len_addI x (-y); rw [Int.natAbs_neg] at h; omega)) (fun v20 w20 p20 => ?_)
 obtain ⟨rfl, c20⟩ := p20
 have zw20 := c20.size
 have s21 : Chg 0 0 w5 w20 := (((d12.t c14).t c18).t c20)
 refine wl_nil ?_
 refine dx_next s21 ?_
 refine dt 5 rfl rfl rfl rfl s21 (fun _ hS => px_assign rfl) ?_
 refine dx_done (by kernel_rfl) ?_
 refine q_n (k6 _ _ ?_)
 refine sx_retc ?_
 refine sx_ret1 Try.results41 rfl ?_
 exact ⟨(by rw [cmpI_sign]), (((((cb2.t cb4).t d12).t c14).t c18).t c20)⟩

theorem c_iIntCmpK {w : World} {va : Value} {lva uva : Nat} {x : Int} {vb : Value} {lvb uvb : Nat} {y : Int} (hva : Sl w lva uva va (dg x.natAbs)) (hvb : Sl w lvb uvb vb (dg y.natAbs)) (hbx : (dg x.natAbs).length ≤ 50) (hby : (dg y.natAbs).length ≤ 50) :
  Ret Try.prog 8 [.agg #[.bool (ng x), va], .agg #[.bool (ng y), vb]] w fun v w' => v = .int .i64 (cmpI x y) ∧ Chg 0 0 w w' := by
 have hva0 := hva.fit
 have hvb0 := hvb.fit
 refine sx_enter Try.func8 rfl Try.ntmps8 (nbl rfl) ?_
 refine sx_seq fun K1 k1 => sx_region ?_
 refine sx_box [.bool (ng x), va] rfl rfl rfl (fun b2 w3 eb2 sb2 fb2 cb2 => ?_)
 have zw3 := cb2.size
 refine sx_box [.bool (ng y), vb] rfl rfl rfl (fun b4 w5 eb4 sb4 fb4 cb4 => ?_)
 have zw5 := cb4.size
 refine av rfl rfl (wl_nil (q_n (k1 _ _ ?_)))
 refine sx_seq fun K6 k6 => ?_
 refine sx_seq fun K7 k7 => sx_region ?_
 have f8 := fb2.ext cb4
 refine sp rfl (px_load rfl (f8.loadA (vs := [.bool (ng x), va]) (look_lit rfl) Try.isAgg25 Try.sizeOf25)) ?_
 refine sp rfl (px_load rfl (fb4.loadA (vs := [.bool (ng y), vb]) (look_lit rfl) Try.isAgg25 Try.sizeOf25)) ?_
 have f9 := hva0.ext cb2
 have f10 := f9.ext cb4
 have f11 := hvb0.ext cb2
 have f12 := f11.ext cb4
 refine sx_call rfl rfl Try.call40 (c_intsOk f10 f12 (by omega)) (fun v13 w13 p13 => ?_)
 obtain ⟨rfl, c13⟩ := p13
 have zw13 := c13.size
 refine sp rfl (px_notP rfl) ?_
 refine wl_nil (q_n (k7 _ _ ?_))
 have h114 : ¬ (¬ (IOk (ng x) (dg x.natAbs) ∧ IOk (ng y) (dg y.natAbs))) := fun h => h ⟨IOk_ng (by omega), IOk_ng (by omega)⟩
 refine sx_condPF rfl h114 ?_
 refine sx_skip ?_
 refine q_n (k6 _ _ ?_)
 refine sx_seq fun K14 k14 => sx_region ?_
 have f15 := f8.ext c13
 refine sp rfl (px_load rfl (f15.loadA (vs := [.bool (ng x), va]) (look_lit rfl) Try.isAgg25 Try.sizeOf25)) ?_
 have f16 := fb4.ext c13
 refine sp rfl (px_load rfl (f16.loadA (vs := [.bool (ng y), vb]) (look_lit rfl) Try.isAgg25 Try.sizeOf25)) ?_
 have f17 := f10.ext c13
 have f18 := f12.ext c13
 refine sx_call rfl rfl Try.call41 (c_intCmp f17 f18 (by omega) (by omega)) (fun v19 w19 p19 => ?_)
 obtain ⟨rfl, c19⟩ := p19
 have zw19 := c19.size
 refine av rfl rfl (wl_nil (q_n (k14 _ _ ?_)))
 refine sx_retc ?_
 refine sx_ret1 Try.results8 rfl ?_
 exact ⟨rfl, (((cb2.t cb4).t c13).t c19)⟩

theorem c_iRatCmpK {w : World} {va1 : Value} {lva1 uva1 : Nat} {x1 : Int} {vd1 : Value} {lvd1 uvd1 : Nat} {e1 : Nat} {va2 : Value} {lva2 uva2 : Nat} {x2 : Int} {vd2 : Value} {lvd2 uvd2 : Nat} {e2 : Nat} (hva1 : Sl w lva1 uva1 va1 (dg x1.natAbs)) (hvd1 : Sl w lvd1 uvd1 vd1 (dg e1)) (hva2 : Sl w lva2 uva2 va2 (dg x2.natAbs)) (hvd2 : Sl w lvd2 uvd2 vd2 (dg e2)) (hR1 : ROk (ng x1) (dg x1.natAbs) (dg e1)) (hR2 : ROk (ng x2) (dg x2.natAbs) (dg e2)) :
  Ret Try.prog 14 [.agg #[.bool (ng x1), va1, vd1], .agg #[.bool (ng x2), va2, vd2]] w fun v w' => v = .int .i64 (cmpI (x1 * ((e2 : Nat) : Int)) (x2 * ((e1 : Nat) : Int))) ∧ Chg 0 0 w w' := by
 have hva10 := hva1.fit
 have hvd10 := hvd1.fit
 have hva20 := hva2.fit
 have hvd20 := hvd2.fit
 have hi1 := ROk_iff.1 hR1
 have hi2 := ROk_iff.1 hR2
 have l1 := len_mul x1.natAbs e2
 have l2 := len_mul x2.natAbs e1
 have a1 : (x1 * (e2 : Int)).natAbs = x1.natAbs * e2 := by rw [Int.natAbs_mul, Int.natAbs_natCast]
 have a2 : (x2 * (e1 : Int)).natAbs = x2.natAbs * e1 := by rw [Int.natAbs_mul, Int.natAbs_natCast]
 refine sx_enter Try.func14 rfl Try.ntmps14 (nbl rfl) ?_
 refine sx_seq fun K1 k1 => sx_region ?_
 refine sx_box [.bool (ng x1), va1, vd1] rfl rfl rfl (fun b2 w3 eb2 sb2 fb2 cb2 => ?_)
 have zw3 := cb2.size
 refine sx_box [.bool (ng x2), va2, vd2] rfl rfl rfl (fun b4 w5 eb4 sb4 fb4 cb4 => ?_)
 have zw5 := cb4.size
 refine av rfl rfl (wl_nil (q_n (k1 _ _ ?_)))
 refine sx_seq fun K6 k6 => ?_
 refine sx_seq fun K7 k7 => sx_region ?_
 have f8 := fb2.ext cb4
 refine sp rfl (px_load rfl (f8.loadA (vs := [.bool (ng x1), va1, vd1]) (look_lit rfl) Try.isAgg35 Try.sizeOf35)) ?_
 refine sp rfl (px_load rfl (fb4.loadA (vs := [.bool (ng x2), va2, vd2]) (look_lit rfl) Try.isAgg35 Try.sizeOf35)) ?_
 have f9 := hva10.ext cb2
 have f10 := f9.ext cb4
 have f11 := hvd10.ext cb2
 have f12 := f11.ext cb4
 have f13 := hva20.ext cb2
 have f14 := f13.ext cb4
 have f15 := hvd20.ext cb2
 have f16 := f15.ext cb4
 refine sx_call rfl rfl Try.call50 (c_ratsOk f10 f12 f14 f16 (by omega)) (fun v17 w17 p17 => ?_)
 obtain ⟨rfl, c17⟩ := p17
 have zw17 := c17.size
 refine sp rfl (px_notP rfl) ?_
 refine wl_nil (q_n (k7 _ _ ?_))
 have h98 : ¬ (¬ (ROk (ng x1) (dg x1.natAbs) (dg e1) ∧ ROk (ng x2) (dg x2.natAbs) (dg e2))) := fun h => h ⟨hR1, hR2⟩
 refine sx_condPF rfl h98 ?_
 refine sx_skip ?_
 refine q_n (k6 _ _ ?_)
 refine sx_seq fun K18 k18 => ?_
 have f19 := f8.ext c17
 have f20 := fb4.ext c17
 refine dx_region (fun w' => Chg 0 0 w17 w') (by kernel_rfl) (Chg.zero (Chg.drew _)) ?_
 have d25 := Chg.drew w17
 have s25 : Chg 0 0 w17 (World.drew w17) := Chg.zero (Chg.drew _)
 have y25 : (World.drew w17).heap.size = w17.heap.size := rfl
 generalize World.drew w17 = w25 at *
 have zw25 := d25.size
 refine dt 0 rfl rfl rfl rfl s25 (fun _ hS => px_load rfl ((f19.chg hS (by omega)).loadA (vs := [.bool (ng x1), va1, vd1]) (look_lit rfl) Try.isAgg35 Try.sizeOf35)) ?_
 refine dt 1 rfl rfl rfl rfl s25 (fun _ hS => px_field rfl xfld35x1) ?_
 refine dt 2 rfl rfl rfl rfl s25 (fun _ hS => px_load rfl ((f20.chg hS (by omega)).load1 rfl Try.isAgg23)) ?_
 refine dt 4 rfl rfl rfl rfl s25 (fun _ hS => px_load rfl ((f20.chg hS (by omega)).loadA (vs := [.bool (ng x2), va2, vd2]) (look_lit rfl) Try.isAgg35 Try.sizeOf35)) ?_
 refine dt 5 rfl rfl rfl rfl s25 (fun _ hS => px_field rfl xfld35x1) ?_
 refine dt 6 rfl rfl rfl rfl s25 (fun _ hS => px_load rfl ((f19.chg hS (by omega)).load1 rfl Try.isAgg23)) ?_
 refine dx_eff 3 rfl (by kernel_rfl) ?_
 have f26 := (f10.ext c17).ext d25
 have f27 := (f12.ext c17).ext d25
 have f28 := (f16.ext c17).ext d25
 refine sx_call rfl rfl Try.call51 (c_ratNum f26 f27 f28 (by omega) (by omega)) (fun v29 w29 p29 => ?_)
 obtain ⟨s29, rfl, os_29, c29⟩ := p29
 have zw29 := c29.size
 have s30 : Chg 0 0 w17 w29 := (d25.t c29)
 refine wl_nil ?_
 refine dx_next s30 ?_
 refine dx_eff 7 rfl (by kernel_rfl) ?_
 have f32 := ((f14.ext c17).ext d25).ext c29
 have f33 := f28.ext c29
 have f34 := f27.ext c29
 refine sx_call rfl rfl Try.call51 (c_ratNum f32 f33 f34 (by omega) (by omega)) (fun v35 w35 p35 => ?_)
 obtain ⟨s35, rfl, os_35, c35⟩ := p35
 have zw35 := c35.size
 have s36 : Chg 0 0 w17 w35 := ((d25.t c29).t c35)
 refine wl_nil ?_
 refine dx_next s36 ?_
 refine dx_eff 8 rfl (by kernel_rfl) ?_
 have f37 := os_29.ext c35
 refine sx_call rfl rfl Try.call41 (c_intCmp f37.sv os_35.sv (by rw [a1]; omega) (by rw [a2]; omega)) (fun v38 w38 p38 => ?_)
 obtain ⟨rfl, c38⟩ := p38
 have zw38 := c38.size
 have s39 : Chg 0 0 w17 w38 := (((d25.t c29).t c35).t c38)
 refine wl_nil ?_
 refine dx_next s39 ?_
 refine dt 9 rfl rfl rfl rfl s39 (fun _ hS => px_assign rfl) ?_
 refine dx_done (by kernel_rfl) ?_
 refine q_n (k18 _ _ ?_)
 refine sx_sub (Sub.c 4 rfl .nil) ?_
 refine sx_retc ?_
 refine sx_ret1 Try.results14 rfl ?_
 exact ⟨rfl, ((((((cb2.t cb4).t c17).t d25).t c29).t c35).t c38)⟩

theorem c_iIntAbsK {w : World} {va : Value} {lva uva : Nat} {x : Int} (hva : Sl w lva uva va (dg x.natAbs)) (hbx : (dg x.natAbs).length ≤ 50) :
  Ret Try.prog 18 [.agg #[.bool (ng x), va]] w fun v w' => ∃ s, v = .agg #[.bool (ng (((x).natAbs : Int))), s] ∧ OwnI w' w.heap.size w'.heap.size s intT (dg (((x).natAbs : Int)).natAbs) ∧ Chg 0 0 w w' := by
 have hva0 := hva.fit
 refine sx_enter Try.func18 rfl Try.ntmps18 (nbl rfl) ?_
 refine sx_seq fun K1 k1 => sx_region ?_
 refine sx_box [.bool (ng x), va] rfl rfl rfl (fun b2 w3 eb2 sb2 fb2 cb2 => ?_)
 have zw3 := cb2.size
 refine sx_alloc [.bool false, (.slice none 0 0)] rfl Try.zeroValue25 rfl (fun b4 w5 eb4 sb4 fb4 cb4 => ?_)
 have zw5 := cb4.size
 refine wl_nil (q_n (k1 _ _ ?_))
 refine sx_seq fun K6 k6 => ?_
 refine sx_seq fun K7 k7 => sx_region ?_
 have f8 := fb2.ext cb4
 refine sp rfl (px_load rfl (f8.loadA (vs := [.bool (ng x), va]) (look_lit rfl) Try.isAgg25 Try.sizeOf25)) ?_
 have f9 := hva0.ext cb2
 have f10 := f9.ext cb4
 refine sx_call rfl rfl Try.call25 (c_iIntOk f10 (by omega)) (fun v11 w11 p11 => ?_)
 obtain ⟨rfl, c11⟩ := p11
 have zw11 := c11.size
 refine sp rfl (px_notP rfl) ?_
 refine wl_nil (q_n (k7 _ _ ?_))
 have h68 : ¬ (¬ (IOk (ng x) (dg x.natAbs))) := fun h => h (IOk_ng (by omega))
 refine sx_condPF rfl h68 ?_
 refine sx_skip ?_
 refine q_n (k6 _ _ ?_)
 refine sx_seq fun K12 k12 => sx_region ?_
 refine sp rfl (px_field rfl xfld25x1) ?_
 have f13 := f8.ext c11
 refine sp rfl (px_load rfl (f13.load1 rfl Try.isAgg23)) ?_
 have f14 := f10.ext c11
 refine sx_call rfl rfl Try.call28 (c_natCopy f14 (by omega)) (fun v15 w15 p15 => ?_)
 obtain ⟨s15, rfl, os_15, c15⟩ := p15
 have zw15 := c15.size
 refine sp rfl (px_build rfl (xbld25x0x1 rfl os_15.one _)) ?_
 have f18 := (fb4.ext c11).ext c15
 refine sx_store (vs := [.bool false, v15]) rfl rfl f18 rfl Try.sizeOf25 (nbl rfl) (one_cons rfl (one_cons os_15.one one_nil)) (fun w16 sw16 fw16 cw16 => ?_)
 have zw16 := cw16.size
 have gw16 : Blk w16 b4 [.bool false, v15] 25 := fw16
 refine wl_nil (q_n (k12 _ _ ?_))
 refine sx_retc ?_
 refine sx_ret1 Try.results18 ⟨_, rfl, gw16.loadA (vs := [.bool false, v15]) (look_lit rfl) Try.isAgg25 Try.sizeOf25⟩ ?_
 rw [ng_false.2 (Int.natCast_nonneg _), Int.natAbs_natCast]
 have q19 := Chg.step (l := 0) (h := 0) (Chg.zero (l := 0) (h := 0) (((cb2.t cb4).t c11).t c15)) cw16 (by omega)
 have f20 := os_15.chg cw16 (by omega)
 exact ⟨_, rfl, (Own.mono f20 (by omega) (by omega)), q19⟩

theorem c_iIntSubK {w : World} {va : Value} {lva uva : Nat} {x : Int} {vb : Value} {lvb uvb : Nat} {y : Int} (hva : Sl w lva uva va (dg x.natAbs)) (hvb : Sl w lvb uvb vb (dg y.natAbs)) (hbx : (dg x.natAbs).length ≤ 49) (hby : (dg y.natAbs).length ≤ 49) :
  Ret Try.prog 19 [.agg #[.bool (ng x), va], .agg #[.bool (ng y), vb]] w fun v w' => ∃ s, v = .agg #[.bool (ng (x + -y)), s] ∧ OwnI w' w.heap.size w'.heap.size s intT (dg (x + -y).natAbs) ∧ Chg 0 0 w w' := by
 have hva0 := hva.fit
 have hvb0 := hvb.fit
 have hla := len_addI x (-y)
 have hln : (dg (-y).natAbs).length = (dg y.natAbs).length := by rw [Int.natAbs_neg]
 refine sx_enter Try.func19 rfl Try.ntmps19 (nbl rfl) ?_
 refine sx_seq fun K1 k1 => sx_region ?_
 refine sx_box [.bool (ng x), va] rfl rfl rfl (fun b2 w3 eb2 sb2 fb2 cb2 => ?_)
 have zw3 := cb2.size
 refine sx_box [.bool (ng y), vb] rfl rfl rfl (fun b4 w5 eb4 sb4 fb4 cb4 => ?_)
 have zw5 := cb4.size
 refine sx_alloc [.bool false, (.slice none 0 0)] rfl Try.zeroValue25 rfl (fun b6 w7 eb6 sb6 fb6 cb6 => ?_)
 have zw7 := cb6.size
 refine wl_nil (q_n (k1 _ _ ?_))
 refine sx_seq fun K8 k8 => ?_
 refine sx_seq fun K9 k9 => sx_region ?_
 have f10 := fb2.ext cb4
 have f11 := f10.ext cb6
 refine sp rfl (px_load rfl (f11.loadA (vs := [.bool (ng x), va]) (look_lit rfl) Try.isAgg25 Try.sizeOf25)) ?_
 have f12 := fb4.ext cb6
 refine sp rfl (px_load rfl (f12.loadA (vs := [.bool (ng y), vb]) (look_lit rfl) Try.isAgg25 Try.sizeOf25)) ?_
 have f13 := hva0.ext cb2
 have f14 := f13.ext cb4
 have f15 := f14.ext cb6
 have f16 := hvb0.ext cb2
 have f17 := f16.ext cb4
 have f18 := f17.ext cb6
 refine sx_call rfl rfl Try.call40 (c_intsOk f15 f18 (by omega)) (fun v19 w19 p19 => ?_)
 obtain ⟨rfl, c19⟩ := p19
 have zw19 := c19.size
 refine sp rfl (px_notP rfl) ?_
 refine wl_nil (q_n (k9 _ _ ?_))
 have h84 : ¬ (¬ (IOk (ng x) (dg x.natAbs) ∧ IOk (ng y) (dg y.natAbs))) := fun h => h ⟨IOk_ng (by omega), IOk_ng (by omega)⟩
 refine sx_condPF rfl h84 ?_
 refine sx_skip ?_
 refine q_n (k8 _ _ ?_)
 refine sx_seq fun K20 k20 => ?_
 have f21 := f11.ext c19
 have f22 := f12.ext c19
 refine dx_region (fun w' => Chg b6 (b6 + 1) w19 w') (by kernel_rfl) (Chg.zero (Chg.drew _)) ?_
 have d25 := Chg.drew w19
 have s25 : Chg b6 (b6 + 1) w19 (World.drew w19) := Chg.zero (Chg.drew _)
 have y25 : (World.drew w19).heap.size = w19.heap.size := rfl
 generalize World.drew w19 = w25 at *
 have zw25 := d25.size
 refine dt 0 rfl rfl rfl rfl s25 (fun _ hS => px_load rfl ((f21.chg hS (by omega)).loadA (vs := [.bool (ng x), va]) (look_lit rfl) Try.isAgg25 Try.sizeOf25)) ?_
 refine dt 1 rfl rfl rfl rfl s25 (fun _ hS => px_load rfl ((f22.chg hS (by omega)).loadA (vs := [.bool (ng y), vb]) (look_lit rfl) Try.isAgg25 Try.sizeOf25)) ?_
 refine dx_eff 2 rfl (by kernel_rfl) ?_
 have f26 := (f18.ext c19).ext d25
 refine sx_call rfl rfl Try.call58 (c_intNeg f26 (by omega)) (fun v27 w27 p27 => ?_)
 obtain ⟨s27, rfl, os_27, c27⟩ := p27
 have zw27 := c27.size
 have s28 : Chg b6 (b6 + 1) w19 w27 := (Chg.zero (l := b6) (h := (b6 + 1)) (d25.t c27))
 refine wl_nil ?_
 refine dx_next s28 ?_
 refine dx_eff 3 rfl (by kernel_rfl) ?_
 have f30 := ((f15.ext c19).ext d25).ext c27
 refine sx_call rfl rfl Try.call57 (c_intAdd f30 os_27.sv (by omega) (by omega)) (fun v31 w31 p31 => ?_)
 obtain ⟨s31, rfl, os_31, c31⟩ := p31
 have zw31 := c31.size
 have s32 : Chg b6 (b6 + 1) w19 w31 := (Chg.zero (l := b6) (h := (b6 + 1)) ((d25.t c27).t c31))
 refine wl_nil ?_
 refine dx_next s32 ?_
 refine dx_eff 4 rfl (by kernel_rfl) ?_
 refine sx_call rfl rfl Try.call56 (c_fitIntK os_31 (by omega) (by omega)) (fun v33 w33 p33 => ?_)
 obtain ⟨s33, rfl, os_33, c33⟩ := p33
 have zw33 := c33.size
 have s34 : Chg b6 (b6 + 1) w19 w33 := (Chg.zero (l := b6) (h := (b6 + 1)) (((d25.t c27).t c31).t c33))
 refine wl_nil ?_
 refine dx_next s34 ?_
 refine dx_eff 5 rfl (by kernel_rfl) ?_
 have f40 := ((((fb6.ext c19).ext d25).ext c27).ext c31).ext c33
 refine sx_store (vs := [.bool (ng (x + (-y))), s33]) rfl rfl f40 rfl Try.sizeOf25 (nbl rfl) (one_cons rfl (one_cons os_33.one one_nil)) (fun w35 sw35 fw35 cw35 => ?_)
 have zw35 := cw35.size
 have gw35 : Blk w35 b6 [.bool (ng (x + (-y))), s33] 25 := fw35
 have q42 := Chg.step (l := b6) (h := (b6 + 1)) (Chg.zero (l := b6) (h := (b6 + 1)) (((d25.t c27).t c31).t c33)) cw35 (by omega)
 have s41 : Chg b6 (b6 + 1) w19 w35 := q42
 refine wl_nil ?_
 refine dx_next s41 ?_
 refine dx_done (by kernel_rfl) ?_
 refine q_n (k20 _ _ ?_)
 refine sx_retc ?_
 refine sx_ret1 Try.results19 ⟨_, rfl, gw35.loadA (vs := [.bool (ng (x + (-y))), s33]) (look_lit rfl) Try.isAgg25 Try.sizeOf25⟩ ?_
 have q43 := Chg.step (l := 0) (h := 0) (Chg.zero (l := 0) (h := 0) (((((((cb2.t cb4).t cb6).t c19).t d25).t c27).t c31).t c33)) cw35 (by omega)
 have f44 := os_33.chg cw35 (by omega)
 exact ⟨_, rfl, (Own.mono f44 (by omega) (by omega)), q43⟩

end Go.Proofs.Ytjkeefmpjocilaa
