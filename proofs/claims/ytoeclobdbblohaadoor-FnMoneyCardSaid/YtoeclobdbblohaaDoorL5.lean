/- Contracts of functions of the program: what each call returns, and that it changes nothing that was. Conditions: as each says. -/
import Derived.Test.YtoeclobdbblohaaDoorTy
import Derived.Test.YtoeclobdbblohaaDoorNatI
import Derived.Test.YtoeclobdbblohaaDoorNatQ
import Derived.Test.YtoeclobdbblohaaDoorSxW
import Derived.Test.YtoeclobdbblohaaDoorSxB
import Derived.Test.YtoeclobdbblohaaDoorTab
import Derived.Test.YtoeclobdbblohaaDoorLay
import Derived.Test.YtoeclobdbblohaaDoorLayB
import Derived.Test.YtoeclobdbblohaaDoorNatX
import Derived.Test.YtoeclobdbblohaaDoorSxP
import Derived.Test.YtoeclobdbblohaaDoorL0
import Derived.Test.YtoeclobdbblohaaDoorL3
import Derived.Test.YtoeclobdbblohaaDoorL4
import Derived.Test.YtoeclobdbblohaaDoorNatJ
import Derived.Test.YtoeclobdbblohaaDoorNatDx
import Derived.Test.YtoeclobdbblohaaDoorSxE
set_option linter.unusedVariables false
set_option linter.unusedSimpArgs false
namespace Go.Proofs.YtoeclobdbblohaaDoor
open Go Go.RowKit
set_option maxRecDepth 100000
theorem c_iMoneyNeg {w : World} {c1 : ByteArray} {n1 : Bool} {v1 : Value} {lv1 uv1 : Nat} {z1 : List Int} (hG0 : Glob w) (hv1 : Sl w lv1 uv1 v1 (z1)) (h63 : z1.length ≤ 4611686018427387904) :
  Ret Tryd.prog 24 [.agg #[.string c1, .bool n1, v1]] w fun v w' => ∃ s, v = .tuple #[.agg #[.string ((mUn uNeg c1 n1 z1).1), .bool ((mUn uNeg c1 n1 z1).2.1), s], .bool ((mUn uNeg c1 n1 z1).2.2.2)] ∧ OwnI w' w.heap.size w'.heap.size s intT ((mUn uNeg c1 n1 z1).2.2.1) ∧ ((mUn uNeg c1 n1 z1).2.2.1.length ≤ 4) ∧ Chg 0 0 w w' := by
 have hv10 := hv1.fit
 refine sx_enter Tryd.func24 rfl Tryd.ntmps24 (nbl rfl) ?_
 refine sx_seq fun K1 k1 => sx_region ?_
 refine sx_box [.string c1, .bool n1, v1] rfl rfl rfl (fun b2 w3 eb2 sb2 fb2 cb2 => ?_)
 have zw3 := cb2.size
 refine sx_alloc [.string (⟨#[]⟩), .bool false, (.slice none 0 0)] rfl Tryd.zeroValue26 rfl (fun b4 w5 eb4 sb4 fb4 cb4 => ?_)
 have zw5 := cb4.size
 refine av rfl rfl (wl_nil (q_n (k1 _ _ ?_)))
 refine sx_seq fun K6 k6 => ?_
 refine sx_seq fun K7 k7 => sx_region ?_
 have f8 := fb2.ext cb4
 refine sp rfl (px_load rfl (f8.loadA (vs := [.string c1, .bool n1, v1]) (look_lit rfl) Tryd.isAgg26 Tryd.sizeOf26)) ?_
 have f9 := hG0.ext cb2
 have f10 := f9.ext cb4
 have f11 := hv10.ext cb2
 have f12 := f11.ext cb4
 refine sx_call rfl rfl Tryd.call46 (c_iMoneyOk f10 f12 (by omega)) (fun v13 w13 p13 => ?_)
 obtain ⟨rfl, c13⟩ := p13
 have zw13 := c13.size
 refine sp rfl (px_notP rfl) ?_
 refine wl_nil (q_n (k7 _ _ ?_))
 refine sx_condP rfl (fun h71 => ?_) (fun h71 => ?_)
 ·
  refine sx_seq fun K14 k14 => sx_region ?_
  refine sp rfl (px_build rfl (xbld26x  _)) ?_
  have f16 := fb4.ext c13
  refine sx_store (vs := [.string (⟨#[]⟩), .bool false, (.slice none 0 0)]) rfl rfl f16 rfl Tryd.sizeOf26 (nbl rfl) (o3 rfl rfl rfl) (fun w15 sw15 fw15 cw15 => ?_)
  have zw15 := cw15.size
  have gw15 : Blk w15 b4 [.string (⟨#[]⟩), .bool false, (.slice none 0 0)] 26 := fw15
  refine av rfl rfl (wl_nil (q_n (k14 _ _ ?_)))
  refine sx_retc ?_
  refine q_r (sx_ret2 Tryd.results24 ⟨_, rfl, gw15.loadA (vs := [.string (⟨#[]⟩), .bool false, (.slice none 0 0)]) (look_lit rfl) Tryd.isAgg26 Tryd.sizeOf26⟩ rfl ?_)
  rw [mUn_no (by assumption)]
  have q17 := Chg.step (l := 0) (h := 0) (Chg.zero (l := 0) (h := 0) ((cb2.t cb4).t c13)) cw15 (by omega)
  exact ⟨_, rfl, Own.nil _ _ _ _ _, by simp [noM], q17⟩
 have hA := Decidable.not_not.1 h71
 obtain ⟨x1, rfl, rfl, hx1⟩ := hA.int
 have lc : (dg (-x1).natAbs).length = (dg x1.natAbs).length := by rw [Int.natAbs_neg]
 refine sx_skip ?_
 refine q_n (k6 _ _ ?_)
 refine sx_seq fun K18 k18 => ?_
 have f19 := f10.ext c13
 have f20 := f8.ext c13
 refine dx_region (fun w' => Chg b4 (b4 + 1) w13 w') (by kernel_rfl) (Chg.zero (Chg.drew _)) ?_
 have d22 := Chg.drew w13
 have s22 : Chg b4 (b4 + 1) w13 (World.drew w13) := Chg.zero (Chg.drew _)
 have y22 : (World.drew w13).heap.size = w13.heap.size := rfl
 generalize World.drew w13 = w22 at *
 have zw22 := d22.size
 refine dt 0 rfl rfl rfl rfl s22 (fun _ hS => px_field rfl xfld26x0) ?_
 refine dt 1 rfl rfl rfl rfl s22 (fun _ hS => px_load rfl ((f20.chg hS (by omega)).load1 rfl Tryd.isAgg9)) ?_
 refine dt 2 rfl rfl rfl rfl s22 (fun _ hS => px_field rfl xfld26x1) ?_
 refine dt 3 rfl rfl rfl rfl s22 (fun _ hS => px_load rfl ((f20.chg hS (by omega)).loadA (vs := [.bool (ng x1), v1]) (look_lit rfl) Tryd.isAgg24 Tryd.sizeOf24)) ?_
 refine dx_eff 4 rfl (by kernel_rfl) ?_
 have f23 := (f12.ext c13).ext d22
 refine sx_call rfl rfl Tryd.call52 (c_intNeg f23 (by omega)) (fun v24 w24 p24 => ?_)
 obtain ⟨s24, rfl, os_24, c24⟩ := p24
 have zw24 := c24.size
 have s25 : Chg b4 (b4 + 1) w13 w24 := (Chg.zero (l := b4) (h := (b4 + 1)) (d22.t c24))
 refine wl_nil ?_
 refine dx_next s25 ?_
 refine dt 5 rfl rfl rfl rfl s25 (fun _ hS => px_build rfl (xbld26x0x1 rfl _)) ?_
 refine dx_eff 6 rfl (by kernel_rfl) ?_
 have f29 := ((fb4.ext c13).ext d22).ext c24
 refine sx_store (vs := [.string c1, .bool (ng (-x1)), s24]) rfl rfl f29 rfl Tryd.sizeOf26 (nbl rfl) (one_cons rfl (one_cons rfl (one_cons os_24.one one_nil))) (fun w26 sw26 fw26 cw26 => ?_)
 have zw26 := cw26.size
 have gw26 : Blk w26 b4 [.string c1, .bool (ng (-x1)), s24] 26 := fw26
 have q31 := Chg.step (l := b4) (h := (b4 + 1)) (Chg.zero (l := b4) (h := (b4 + 1)) (d22.t c24)) cw26 (by omega)
 have s30 : Chg b4 (b4 + 1) w13 w26 := q31
 refine wl_nil ?_
 refine dx_next s30 ?_
 refine dt 7 rfl rfl rfl rfl s30 (fun _ hS => px_assign rfl) ?_
 refine dx_done (by kernel_rfl) ?_
 refine q_n (k18 _ _ ?_)
 refine sx_retc ?_
 refine sx_ret2 Tryd.results24 ⟨_, rfl, gw26.loadA (vs := [.string c1, .bool (ng (-x1)), s24]) (look_lit rfl) Tryd.isAgg26 Tryd.sizeOf26⟩ rfl ?_
 rw [mUn_ok hA]
 have hR : mR c1 (uNeg x1) = (c1, ng (-x1), dg (-x1).natAbs, true) := mR_ok (c := c1) (x := -x1) (MOk_iff.2 ⟨hA.1, by omega⟩)
 rw [hR]
 have q32 := Chg.step (l := 0) (h := 0) (Chg.zero (l := 0) (h := 0) ((((cb2.t cb4).t c13).t d22).t c24)) cw26 (by omega)
 have f33 := os_24.chg cw26 (by omega)
 exact ⟨_, rfl, (Own.mono f33 (by omega) (by omega)), by show (dg (-x1).natAbs).length ≤ 4; omega, q32⟩

theorem c_iMoneyNegM {w : World} {c1 : ByteArray} {va1 : Value} {lva1 uva1 : Nat} {x1 : Int} (hG0 : Glob w) (hva1 : Sl w lva1 uva1 va1 (dg x1.natAbs)) (hM1 : MOk c1 (ng (x1)) (dg (x1).natAbs)) :
  Ret Tryd.prog 24 [.agg #[.string c1, .bool (ng x1), va1]] w fun v w' => ∃ s, v = .tuple #[.agg #[.string (c1), .bool (ng (-x1)), s], .bool (true)] ∧ OwnI w' w.heap.size w'.heap.size s intT (dg (-x1).natAbs) ∧ Chg 0 0 w w' := by
 have hl1 := hM1.2.2
 have h := c_iMoneyNeg (c1 := c1) (n1 := ng x1) hG0 hva1 (by omega); rw [mUn_ok hM1, show uNeg x1 = -x1 from rfl, mR_ok (mok_len hM1.1 (by rw [Int.natAbs_neg]; exact hl1))] at h
 exact Calls.mono h fun ev w' ⟨v, he, s, e1, o1, _, hc⟩ => ⟨v, he, s, e1, o1, hc⟩

theorem c_iMoneySum {w : World} {c : ByteArray} {vl : Value} {lvl uvl : Nat} {ts : List Mt} {vvl : List Value} (hG0 : Glob w) (hvl : MtS w lvl uvl vl ts vvl) (h63 : ts.length ≤ 4611686018427387904) (hz : ∀ i, i < ts.length → (ts.getD i mt0).2.2.length ≤ 4611686018427387904) :
  Ret Tryd.prog 25 [.string c, vl] w fun v w' => ∃ s, v = .tuple #[.agg #[.string ((msum c ts).1), .bool ((msum c ts).2.1), s], .bool ((msum c ts).2.2.2)] ∧ OwnI w' w.heap.size w'.heap.size s intT ((msum c ts).2.2.1) ∧ ((msum c ts).2.2.1.length ≤ 4) ∧ Chg 0 0 w w' := by
 have hvl0 := hvl.fit
 refine sx_enter Tryd.func25 rfl Tryd.ntmps25 (nbl rfl) ?_
 refine sx_seq fun K1 k1 => sx_region ?_
 refine sx_alloc [.string (⟨#[]⟩), .bool false, (.slice none 0 0)] rfl Tryd.zeroValue26 rfl (fun b2 w3 eb2 sb2 fb2 cb2 => ?_)
 have zw3 := cb2.size
 refine av rfl rfl (wl_nil (q_n (k1 _ _ ?_)))
 refine sx_seq fun K4 k4 => sx_region ?_
 refine sp rfl (px_build rfl (xbld24x  _)) ?_
 refine sx_alloc [.bool false, (.slice none 0 0)] rfl Tryd.zeroValue24 rfl (fun b5 w6 eb5 sb5 fb5 cb5 => ?_)
 have zw6 := cb5.size
 refine sx_store (vs := [.bool false, (.slice none 0 0)]) rfl rfl fb5 rfl Tryd.sizeOf24 (nbl rfl) (o2 rfl rfl) (fun w7 sw7 fw7 cw7 => ?_)
 have zw7 := cw7.size
 have gw7 : Blk w7 b5 [.bool false, (.slice none 0 0)] 24 := fw7
 refine wl_nil (q_n (k4 _ _ ?_))
 refine sx_seq fun K8 k8 => ?_
 refine sx_seq fun K9 k9 => sx_region ?_
 refine mv rfl rfl ?_
 have f10 := hvl0.ext cb2
 have f11 := f10.ext cb5
 have f12 := f11.chg cw7 (by omega)
 refine sp rfl (px_len rfl Tryd.underlying51 f12.sv) ?_
 refine mv rfl rfl (wl_nil (q_n (k9 _ _ ?_)))
 refine sx_block ?_
 have hbz : Blk w7 b5 [.bool (ng (0 : Int)), (.slice none 0 0)] 24 := gw7
 have hnz : OwnI w7 w7.heap.size w7.heap.size (.slice none 0 0) intT (dg (0 : Int).natAbs) := by rw [show (0 : Int).natAbs = 0 from rfl, dg_zero]; exact Own.nil _ _ _ _ _
 have f14 := fb2.ext cb5
 have f15 := f14.chg cw7 (by omega)
 refine sx_loop (fun mm aa w' => ∃ (k : Nat) (x : Int) (s : Value) (gl : Nat) (gh : Nat), Agr 36 [(0, .string c), (4, .pointer (some ⟨b2, 0, none⟩)), (5, .bool false), (6, .pointer (some ⟨b5, 0, none⟩)), (10, vl), (11, .int .i64 (↑(ts).length)), (12, .int .i64 ↑k)] aa ∧ Chg b5 (b5 + 1) w7 w' ∧ Blk w' b5 [.bool (ng (x)), s] 24 ∧ Blk w' b2 [.string (⟨#[]⟩), .bool false, (.slice none 0 0)] 26 ∧ Own w' gl gh s intT ((dg (x).natAbs).length) 1 ((dg (x).natAbs).map (Value.int .i64)) ∧ (mm = ts.length - k) ∧ (k ≤ ts.length) ∧ (x = sumTo ts k) ∧ (AllM c ts k) ∧ (w7.heap.size ≤ gl ∧ gh ≤ w'.heap.size)) (_) (fun a ha => ⟨0, (0 : Int), (.slice none 0 0), w7.heap.size, w7.heap.size, ha.sub (Sub.c 0 rfl (.c 4 rfl (.c 5 rfl (.c 6 rfl (.c 10 rfl (.c 11 (look_int (t := 11) rfl (by first | omega | simp)) (.c 12 (look_int (t := 12) rfl (by first | omega | simp)) .nil))))))), Chg.refl _ _ _, hbz, f15, hnz, rfl, by omega, rfl, AllM_zero c ts, ⟨Nat.le_refl _, Nat.le_refl _⟩⟩) ?_
 rintro mm aa wl13 ⟨k, x, s, gl, gh, hAwl13, cwl13, hb_b5, hb_b2, hs_s, hm, hk, hx, hall, hgl⟩
 refine (show cw Tryd.prog 36 _ _ _ wl13 from ?_) aa hAwl13
 clear hAwl13
 have zwl13 := cwl13.size
 have hsl := msumTo_len hall (by omega)
 rw [← hx] at hsl
 refine sx_seq fun K16 k16 => sx_region ?_
 refine sp rfl (px_lt rfl rfl) ?_
 refine wl_nil (q_n (k16 _ _ ?_))
 refine sx_seq fun K17 k17 => ?_
 refine sx_condP rfl (fun h120 => ?_) (fun h120 => ?_)
 ·
  refine sx_skip ?_
  refine q_n (k17 _ _ ?_)
  refine sx_seq fun K18 k18 => ?_
  refine sx_block ?_
  refine sx_seq fun K19 k19 => sx_region ?_
  have f20 := f12.chg cwl13 (by omega)
  refine sp rfl (px_indexK (j := k) rfl rfl (by omega) Tryd.underlying51 Tryd.sizeOf26 f20.sv (by omega)) ?_
  refine sp rfl (px_load rfl (f20.sv.loadA (mt_look f20.len (by omega)) Tryd.isAgg26 Tryd.sizeOf26)) ?_
  refine sx_alloc [.string (⟨#[]⟩), .bool false, (.slice none 0 0)] rfl Tryd.zeroValue26 rfl (fun b21 w22 eb21 sb21 fb21 cb21 => ?_)
  have zw22 := cb21.size
  have f24 := (f20.nest k (by omega)).ext cb21
  refine sx_store (vs := [.string ((ts.getD k mt0).1), .bool ((ts.getD k mt0).2.1), (vvl.getD k vz)]) rfl rfl fb21 rfl Tryd.sizeOf26 (nbl rfl) (one_cons rfl (one_cons rfl (one_cons f24.one one_nil))) (fun w23 sw23 fw23 cw23 => ?_)
  have zw23 := cw23.size
  have gw23 : Blk w23 b21 [.string ((ts.getD k mt0).1), .bool ((ts.getD k mt0).2.1), (vvl.getD k vz)] 26 := fw23
  refine wl_nil (q_n (k19 _ _ ?_))
  refine sx_seq fun K25 k25 => ?_
  refine sx_seq fun K26 k26 => sx_region ?_
  refine sp rfl (px_load rfl (gw23.loadA (vs := [.string ((ts.getD k mt0).1), .bool ((ts.getD k mt0).2.1), (vvl.getD k vz)]) (look_lit rfl) Tryd.isAgg26 Tryd.sizeOf26)) ?_
  have f27 := hG0.ext cb2
  have f28 := f27.ext cb5
  have f29 := f28.chg cw7 (by omega)
  have f30 := f29.chg cwl13 (by omega)
  have f31 := f30.ext cb21
  have f32 := f31.chg cw23 (by omega)
  have f33 := f24.chg cw23 (by omega)
  refine sx_call rfl rfl Tryd.call46 (c_iMoneyOk f32 f33 (hz k (by omega))) (fun v34 w34 p34 => ?_)
  obtain ⟨rfl, c34⟩ := p34
  have zw34 := c34.size
  refine sp rfl (px_notP rfl) ?_
  refine mv rfl rfl ?_
  refine sx_tmpP (t := 19) rfl (fun h121 => ?_) (fun h121 => ?_)
  ·
   refine sx_guardF rfl rfl rfl rfl rfl rfl ?_
   refine sx_guardF rfl rfl rfl rfl rfl rfl ?_
   refine sx_guardF rfl rfl rfl rfl rfl rfl ?_
   refine sx_guardF rfl rfl rfl rfl rfl rfl ?_
   refine sp rfl (px_pick rfl rfl) ?_
   refine wl_nil (q_n (k26 _ _ ?_))
   refine sx_sub (Sub.c 0 rfl (.c 4 rfl (.c 5 rfl (.c 6 rfl (.c 8 rfl (.c 10 rfl (.c 11 rfl (.c 12 rfl (.c 24 rfl .nil))))))))) ?_
   refine sx_condT rfl ?_
   refine sx_seq fun K35 k35 => sx_region ?_
   refine sp rfl (px_build rfl (xbld26x  _)) ?_
   have f37 := hb_b2.ext cb21
   have f38 := f37.chg cw23 (by omega)
   have f39 := f38.ext c34
   refine sx_store (vs := [.string (⟨#[]⟩), .bool false, (.slice none 0 0)]) rfl rfl f39 rfl Tryd.sizeOf26 (nbl rfl) (o3 rfl rfl rfl) (fun w36 sw36 fw36 cw36 => ?_)
   have zw36 := cw36.size
   have gw36 : Blk w36 b2 [.string (⟨#[]⟩), .bool false, (.slice none 0 0)] 26 := fw36
   refine av rfl rfl (wl_nil (q_n (k35 _ _ ?_)))
   refine sx_retc ?_
   refine q_r (q_br (q_r (q_r (q_br (q_r (sx_ret2 Tryd.results25 ⟨_, rfl, gw36.loadA (vs := [.string (⟨#[]⟩), .bool false, (.slice none 0 0)]) (look_lit rfl) Tryd.isAgg26 Tryd.sizeOf26⟩ rfl ?_))))))
   rw [msum_no (k := k) (by omega) (fun hh => by first | exact h121 hh.1 | exact h121x1 hh.2)]
   have q40 := Chg.step (l := 0) (h := 0) (Chg.zero (l := 0) (h := 0) (cb2.t cb5)) cw7 (by omega)
   have q41 := Chg.step (l := 0) (h := 0) q40 cwl13 (by omega)
   have q42 := Chg.step (l := 0) (h := 0) q41 cb21 (by omega)
   have q43 := Chg.step (l := 0) (h := 0) q42 cw23 (by omega)
   have q44 := Chg.step (l := 0) (h := 0) q43 c34 (by omega)
   have q45 := Chg.step (l := 0) (h := 0) q44 cw36 (by omega)
   exact ⟨_, rfl, Own.nil _ _ _ _ _, by simp [noM], q45⟩
  refine sx_guardT rfl rfl rfl ?_
  refine sp rfl (px_field rfl xfld26x0) ?_
  refine sx_guardT rfl rfl rfl ?_
  have f46 := gw23.ext c34
  refine sp rfl (px_load rfl (f46.load1 rfl Tryd.isAgg9)) ?_
  refine sx_guardT rfl rfl rfl ?_
  refine mv rfl rfl ?_
  refine sx_guardT rfl rfl rfl ?_
  refine sp rfl (px_neS rfl rfl) ?_
  refine sp rfl (px_pick rfl rfl) ?_
  refine wl_nil (q_n (k26 _ _ ?_))
  refine sx_sub (Sub.c 0 rfl (.c 4 rfl (.c 5 rfl (.c 6 rfl (.c 8 rfl (.c 10 rfl (.c 11 rfl (.c 12 rfl (.c 24 rfl .nil))))))))) ?_
  refine sx_condP rfl (fun h121x1 => ?_) (fun h121x1 => ?_)
  ·
   refine sx_seq fun K47 k47 => sx_region ?_
   refine sp rfl (px_build rfl (xbld26x  _)) ?_
   have f49 := hb_b2.ext cb21
   have f50 := f49.chg cw23 (by omega)
   have f51 := f50.ext c34
   refine sx_store (vs := [.string (⟨#[]⟩), .bool false, (.slice none 0 0)]) rfl rfl f51 rfl Tryd.sizeOf26 (nbl rfl) (o3 rfl rfl rfl) (fun w48 sw48 fw48 cw48 => ?_)
   have zw48 := cw48.size
   have gw48 : Blk w48 b2 [.string (⟨#[]⟩), .bool false, (.slice none 0 0)] 26 := fw48
   refine av rfl rfl (wl_nil (q_n (k47 _ _ ?_)))
   refine sx_retc ?_
   refine q_r (q_br (q_r (q_r (q_br (q_r (sx_ret2 Tryd.results25 ⟨_, rfl, gw48.loadA (vs := [.string (⟨#[]⟩), .bool false, (.slice none 0 0)]) (look_lit rfl) Tryd.isAgg26 Tryd.sizeOf26⟩ rfl ?_))))))
   rw [msum_no (k := k) (by omega) (fun hh => by first | exact h121 hh.1 | exact h121x1 hh.2)]
   have q52 := Chg.step (l := 0) (h := 0) (Chg.zero (l := 0) (h := 0) (cb2.t cb5)) cw7 (by omega)
   have q53 := Chg.step (l := 0) (h := 0) q52 cwl13 (by omega)
   have q54 := Chg.step (l := 0) (h := 0) q53 cb21 (by omega)
   have q55 := Chg.step (l := 0) (h := 0) q54 cw23 (by omega)
   have q56 := Chg.step (l := 0) (h := 0) q55 c34 (by omega)
   have q57 := Chg.step (l := 0) (h := 0) q56 cw48 (by omega)
   exact ⟨_, rfl, Own.nil _ _ _ _ _, by simp [noM], q57⟩
  have hM := Decidable.not_not.1 h121
  have hC := Decidable.not_not.1 h121x1
  obtain ⟨y, hy1, hy2, hy⟩ := hM.int
  have hla := len_addI x y
  have f58 := f33.ext c34
  have f59 := f58
  rw [hy2] at f59
  have f60 := f46
  rw [hy1] at f60
  refine sx_skip ?_
  refine q_n (k25 _ _ ?_)
  refine sx_region ?_
  have f61 := hb_b5.ext cb21
  have f62 := f61.chg cw23 (by omega)
  have f63 := f62.ext c34
  refine sp rfl (px_load rfl (f63.loadA (vs := [.bool (ng (x)), s]) (look_lit rfl) Tryd.isAgg24 Tryd.sizeOf24)) ?_
  refine sp rfl (px_field rfl xfld26x1) ?_
  refine sp rfl (px_load rfl (f60.loadA (vs := [.bool (ng y), (vvl.getD k vz)]) (look_lit rfl) Tryd.isAgg24 Tryd.sizeOf24)) ?_
  have f64 := hs_s.ext cb21
  have f65 := f64.chg cw23 (by omega)
  have f66 := f65.ext c34
  refine sx_call rfl rfl Tryd.call51 (c_intAdd f66.sv f59 (by omega) (by omega)) (fun v67 w67 p67 => ?_)
  obtain ⟨s67, rfl, os_67, c67⟩ := p67
  have zw67 := c67.size
  have f69 := f63.ext c67
  refine sx_store (vs := [.bool (ng ((x) + (y))), s67]) rfl rfl f69 rfl Tryd.sizeOf24 (nbl rfl) (one_cons rfl (one_cons os_67.one one_nil)) (fun w68 sw68 fw68 cw68 => ?_)
  have zw68 := cw68.size
  have gw68 : Blk w68 b5 [.bool (ng ((x) + (y))), s67] 24 := fw68
  refine wl_nil ?_
  refine q_bn (q_n (k18 _ _ ?_))
  refine sx_region ?_
  refine sp rfl (px_add rfl rfl (by omega)) ?_
  refine mv rfl rfl (wl_nil ?_)
  have q70 := Chg.step (l := b5) (h := (b5 + 1)) cwl13 cb21 (by omega)
  have q71 := Chg.step (l := b5) (h := (b5 + 1)) q70 cw23 (by omega)
  have q72 := Chg.step (l := b5) (h := (b5 + 1)) q71 (c34.t c67) (by omega)
  have q73 := Chg.step (l := b5) (h := (b5 + 1)) q72 cw68 (by omega)
  have f74 := hb_b2.ext cb21
  have f75 := f74.chg cw23 (by omega)
  have f78 := ((f75.ext c34).ext c67).chg cw68 (by omega)
  have f79 := os_67.chg cw68 (by omega)
  exact fun a ha => ⟨_, by omega, (k + 1), (x + y), s67, w34.heap.size, w67.heap.size, ha.sub (Sub.c 0 rfl (.c 4 rfl (.c 5 rfl (.c 6 rfl (.c 10 rfl (.c 11 rfl (.c 12 (look_int (t := 12) rfl (by first | omega | simp)) .nil))))))), q73, gw68, f78, (f79.mono (by omega) (by omega)), rfl, by omega, by show x + y = sumTo ts k + vI _ _; rw [hx, hy1, hy2, vI_ng], AllM_succ hall hM hC, by omega⟩
 refine sx_exit ?_
 refine q_e (q_e (q_bx (q_n (k8 _ _ ?_))))
 refine sx_seq fun K80 k80 => sx_region ?_
 refine mv rfl rfl (sp rfl (px_load rfl (hb_b5.loadA (vs := [.bool (ng (x)), s]) (look_lit rfl) Tryd.isAgg24 Tryd.sizeOf24)) ?_)
 have f81 := hG0.ext cb2
 have f82 := f81.ext cb5
 have f83 := f82.chg cw7 (by omega)
 have f84 := f83.chg cwl13 (by omega)
 refine sx_call rfl rfl Tryd.call50 (c_moneyOf f84 hs_s (by omega) (by omega)) (fun v85 w85 p85 => ?_)
 obtain ⟨s85, rfl, os_85, c85⟩ := p85
 have zw85 := c85.size
 refine sp rfl (px_ex2 rfl rfl) ?_
 refine sp rfl (px_ex2 rfl rfl) ?_
 have f87 := hb_b2.ext c85
 refine sx_store (vs := [.string ((mR c (x)).1), .bool ((mR c (x)).2.1), s85]) rfl rfl f87 rfl Tryd.sizeOf26 (nbl rfl) (one_cons rfl (one_cons rfl (one_cons os_85.one one_nil))) (fun w86 sw86 fw86 cw86 => ?_)
 have zw86 := cw86.size
 have gw86 : Blk w86 b2 [.string ((mR c (x)).1), .bool ((mR c (x)).2.1), s85] 26 := fw86
 refine av rfl rfl (wl_nil (q_n (k80 _ _ ?_)))
 refine sx_retc ?_
 refine sx_ret2 Tryd.results25 ⟨_, rfl, gw86.loadA (vs := [.string ((mR c (x)).1), .bool ((mR c (x)).2.1), s85]) (look_lit rfl) Tryd.isAgg26 Tryd.sizeOf26⟩ rfl ?_
 have ek : k = ts.length := by omega
 subst ek
 rw [msum_ok hall, ← hx]
 have q88 := Chg.step (l := 0) (h := 0) (Chg.zero (l := 0) (h := 0) (cb2.t cb5)) cw7 (by omega)
 have q89 := Chg.step (l := 0) (h := 0) q88 cwl13 (by omega)
 have q90 := Chg.step (l := 0) (h := 0) q89 c85 (by omega)
 have q91 := Chg.step (l := 0) (h := 0) q90 cw86 (by omega)
 have f92 := os_85.chg cw86 (by omega)
 exact ⟨_, rfl, (Own.mono f92 (by omega) (by omega)), mR_len, q91⟩

theorem c_iMoneySumM {w : World} {c : ByteArray} {vl : Value} {lvl uvl : Nat} {ts : List Mt} {vvl : List Value} (hG0 : Glob w) (hvl : MtS w lvl uvl vl ts vvl) (h63 : ts.length ≤ 1000) (hcK : Known c) (hA : AllM c ts ts.length) (h0 : sumTo ts ts.length = 0) :
  Ret Tryd.prog 25 [.string c, vl] w fun v w' => ∃ s, v = .tuple #[.agg #[.string (c), .bool (ng ((0 : Int))), s], .bool (true)] ∧ OwnI w' w.heap.size w'.heap.size s intT (dg ((0 : Int)).natAbs) ∧ Chg 0 0 w w' := by
 have hk : ∀ i, i < ts.length → (ts.getD i mt0).2.2.length ≤ 4611686018427387904 := fun i hi => Nat.le_trans (hA i hi).1.2.2 (by decide)
 have h := c_iMoneySum (c := c) hG0 hvl (by omega) hk; rw [msum_ok hA, h0, mR_ok (mok_len hcK len_nil0)] at h
 exact Calls.mono h fun ev w' ⟨v, he, s, e1, o1, _, hc⟩ => ⟨v, he, s, e1, o1, hc⟩

theorem c_iIntSignK {w : World} {va : Value} {lva uva : Nat} {x : Int} (hva : Sl w lva uva va (dg x.natAbs)) (hbx : (dg x.natAbs).length ≤ 50) :
  Ret Tryd.prog 26 [.agg #[.bool (ng x), va]] w fun v w' => v = .int .i64 ((x).sign) ∧ Chg 0 0 w w' := by
 have hva0 := hva.fit
 refine sx_enter Tryd.func26 rfl Tryd.ntmps26 (nbl rfl) ?_
 refine sx_seq fun K1 k1 => sx_region ?_
 refine sx_box [.bool (ng x), va] rfl rfl rfl (fun b2 w3 eb2 sb2 fb2 cb2 => ?_)
 have zw3 := cb2.size
 refine av rfl rfl (wl_nil (q_n (k1 _ _ ?_)))
 refine sx_seq fun K4 k4 => ?_
 refine sx_seq fun K5 k5 => sx_region ?_
 refine sp rfl (px_load rfl (fb2.loadA (vs := [.bool (ng x), va]) (look_lit rfl) Tryd.isAgg24 Tryd.sizeOf24)) ?_
 have f6 := hva0.ext cb2
 refine sx_call rfl rfl Tryd.call58 (c_iIntOk f6 (by omega)) (fun v7 w7 p7 => ?_)
 obtain ⟨rfl, c7⟩ := p7
 have zw7 := c7.size
 refine sp rfl (px_notP rfl) ?_
 refine wl_nil (q_n (k5 _ _ ?_))
 have h122 : ¬ (¬ (IOk (ng x) (dg x.natAbs))) := fun h => h (IOk_ng (by omega))
 refine sx_condPF rfl h122 ?_
 refine sx_skip ?_
 refine q_n (k4 _ _ ?_)
 refine sx_seq fun K8 k8 => sx_region ?_
 have f9 := fb2.ext c7
 refine sp rfl (px_load rfl (f9.loadA (vs := [.bool (ng x), va]) (look_lit rfl) Tryd.isAgg24 Tryd.sizeOf24)) ?_
 have f10 := f6.ext c7
 refine sx_call rfl rfl Tryd.call59 (c_intSign f10 (by omega)) (fun v11 w11 p11 => ?_)
 obtain ⟨rfl, c11⟩ := p11
 have zw11 := c11.size
 refine av rfl rfl (wl_nil (q_n (k8 _ _ ?_)))
 refine sx_retc ?_
 refine sx_ret1 Tryd.results26 rfl ?_
 exact ⟨rfl, ((cb2.t c7).t c11)⟩

end Go.Proofs.YtoeclobdbblohaaDoor
