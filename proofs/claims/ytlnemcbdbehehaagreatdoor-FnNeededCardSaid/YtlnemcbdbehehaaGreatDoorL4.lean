/- Contracts of functions of the program: what each call returns, and that it changes nothing that was. Conditions: as each says. -/
import Derived.Test.YtlnemcbdbehehaaGreatDoorTy
import Derived.Test.YtlnemcbdbehehaaGreatDoorNatP
import Derived.Test.YtlnemcbdbehehaaGreatDoorSxD
import Derived.Test.YtlnemcbdbehehaaGreatDoorPair
import Derived.Test.YtlnemcbdbehehaaGreatDoorSxW
import Derived.Test.YtlnemcbdbehehaaGreatDoorNatS
import Derived.Test.YtlnemcbdbehehaaGreatDoorSxG
import Derived.Test.YtlnemcbdbehehaaGreatDoorNatT
import Derived.Test.YtlnemcbdbehehaaGreatDoorSxP
import Derived.Test.YtlnemcbdbehehaaGreatDoorRm
import Derived.Test.YtlnemcbdbehehaaGreatDoorL0
import Derived.Test.YtlnemcbdbehehaaGreatDoorL1
import Derived.Test.YtlnemcbdbehehaaGreatDoorL2
import Derived.Test.YtlnemcbdbehehaaGreatDoorL3
import Derived.Test.YtlnemcbdbehehaaGreatDoorNatW
set_option linter.unusedVariables false
set_option linter.unusedSimpArgs false
namespace Go.Proofs.YtlnemcbdbehehaaGreatDoor
open Go Go.RowKit
set_option maxRecDepth 100000
theorem c_MakeAmount {w : World} {vb : Value} {lvb uvb : Nat} {bs : List Int} {cc : ByteArray} (hvb : SlB w lvb uvb vb (bs)) (hb8 : ∀ j, j < bs.length → 0 ≤ bs.getD j 0 ∧ bs.getD j 0 ≤ 255) (hbl : bs.length ≤ 1048576) :
  Ret Tryz.prog 5 [vb, .string cc] w fun v w' => ∃ s x, v = .agg #[.string (cc), .bool (ng x), s] ∧ OwnI w' w.heap.size w'.heap.size s intT (dg (x).natAbs) ∧ (0 ≤ x ∧ x ≤ 29999) ∧ Chg 0 0 w w' := by
 have hvb0 := hvb.fit
 refine sx_enter Tryz.func5 rfl Tryz.ntmps5 (nbl rfl) ?_
 refine sx_seq fun K1 k1 => sx_region ?_
 refine sx_alloc [.string (⟨#[]⟩), .bool false, (.slice none 0 0)] rfl Tryz.zeroValue32 rfl (fun b2 w3 eb2 sb2 fb2 cb2 => ?_)
 have zw3 := cb2.size
 refine wl_nil (q_n (k1 _ _ ?_))
 refine sx_seq fun K4 k4 => sx_region ?_
 refine mv rfl rfl ?_
 have f5 := hvb0.ext cb2
 refine sx_call rfl rfl Tryz.call13 (c_l01New f5 (by assumption) (by omega)) (fun v6 w6 p6 => ?_)
 obtain ⟨c6, h26, rfl, xc_6, hh6, hc6, cq6⟩ := p6
 have zw6 := cq6.size
 refine av rfl rfl (wl_nil (q_n (k4 _ _ ?_)))
 refine sx_seq fun K7 k7 => sx_region ?_
 refine mv rfl rfl (mv rfl rfl (sp rfl (px_nil rfl) ?_))
 refine sp rfl (px_field rfl xfld52x2) ?_
 refine sp rfl (px_load rfl (xc_6.load1 rfl Tryz.isAgg3)) ?_
 refine sp rfl (px_add rfl rfl (by omega)) ?_
 refine sp rfl (px_nil rfl) ?_
 refine sp rfl (px_field rfl xfld52x2) ?_
 refine sx_store (vs := [.int .i64 (h26 + 31)]) rfl rfl xc_6 rfl Tryz.sizeOf3 (nbl rfl) (o1 rfl) (fun w8 sw8 fw8 cw8 => ?_)
 have zw8 := cw8.size
 have gw8 : Blk w8 c6 [vb, .int .i64 0, .int .i64 (h26 + 31)] 52 := fw8
 refine wl_nil (q_n (k7 _ _ ?_))
 refine sx_seq fun K9 k9 => sx_region ?_
 refine mv rfl rfl (mv rfl rfl ?_)
 have f10 := f5.ext cq6
 have f11 := f10.chg cw8 (by omega)
 refine sx_call rfl rfl Tryz.call17 (c_l01Below gw8 f11 (by assumption) (by omega) (by omega) (by omega) (by omega)) (fun v12 w12 p12 => ?_)
 obtain ⟨x12, i212, h212, rfl, xc_12, hx12, hi212, c12⟩ := p12
 have zw12 := c12.size
 refine sx_call rfl rfl Tryz.call16 (c_sIntOf (by omega)) (fun v13 w13 p13 => ?_)
 obtain ⟨s13, rfl, os_13, c13⟩ := p13
 have zw13 := c13.size
 refine sp rfl (px_build rfl (xbld32x0x1 rfl _)) ?_
 have f15 := fb2.ext cq6
 have f16 := f15.chg cw8 (by omega)
 have f18 := (f16.chg c12 (by omega)).ext c13
 refine sx_store (vs := [.string cc, .bool (ng x12), s13]) rfl rfl f18 rfl Tryz.sizeOf32 (nbl rfl) (one_cons rfl (one_cons rfl (one_cons os_13.one one_nil))) (fun w14 sw14 fw14 cw14 => ?_)
 have zw14 := cw14.size
 have gw14 : Blk w14 b2 [.string cc, .bool (ng x12), s13] 32 := fw14
 refine wl_nil (q_n (k9 _ _ ?_))
 refine sx_sub (Sub.c 4 rfl .nil) ?_
 refine sx_retc ?_
 refine sx_ret1 Tryz.results5 ⟨_, rfl, gw14.loadA (vs := [.string cc, .bool (ng x12), s13]) (look_lit rfl) Tryz.isAgg32 Tryz.sizeOf32⟩ ?_
 have q19 := Chg.step (l := 0) (h := 0) (Chg.zero (l := 0) (h := 0) (cb2.t cq6)) cw8 (by omega)
 have q20 := Chg.step (l := 0) (h := 0) q19 c12 (by omega)
 have q21 := Chg.step (l := 0) (h := 0) q20 c13 (by omega)
 have q22 := Chg.step (l := 0) (h := 0) q21 cw14 (by omega)
 have f23 := os_13.chg cw14 (by omega)
 exact ⟨_, _, rfl, (Own.mono f23 (by omega) (by omega)), by omega, q22⟩

theorem c_iNeededK {w : World} {pv : ByteArray} {vt : Value} {lvt uvt : Nat} {ts : List Rt} {vvt : List Value} {c : ByteArray} {va : Value} {lva uva : Nat} {x : Int} {fo : ByteArray} (hG0 : Glob w) (hvt : RtS w lvt uvt vt ts vvt) (hva : Sl w lva uva va (dg x.natAbs)) (h63 : ts.length ≤ 4611686018427387904) (hz : ∀ i, i < ts.length → (ts.getD i rt0).2.2.2.1.length ≤ 4611686018427387904) (hsm : ∀ i, i < (ts).length → SmR ((ts).getD i rt0)) (hx : 0 ≤ x ∧ x ≤ 29999) :
  Ret Tryz.prog 6 [.agg #[.string pv, vt], .agg #[.string c, .bool (ng x), va], .string fo] w fun v w' => ∃ s qc n, v = .tuple #[.agg #[.string (qc), .bool (ng n), s], .bool (decide (how pv ts fo c ≠ 0))] ∧ OwnI w' w.heap.size w'.heap.size s intT (dg (n).natAbs) ∧ ((how pv ts fo c ≠ 0 → fo = qc ∧ MOk c (ng x) (dg (x).natAbs) ∧ Known fo ∧ (0 ≤ n ∧ n ≤ 100000000000000000) ∧ ∃ (y : Int) (e : Nat), uRt pv ts fo c = (ng y, dg y.natAbs, dg e, true) ∧ ROk (ng y) (dg y.natAbs) (dg e) ∧ 0 < y ∧ y.natAbs ≤ 1000000000000 ∧ e ≤ 1000000000000 ∧ x * (e : Int) ≤ n * y ∧ (n - 1) * y < x * (e : Int))) ∧ ((dg (n).natAbs).length ≤ 4) ∧ Chg 0 0 w w' := by
 obtain ⟨q, N, hE, hN⟩ := need_form (pv := pv) (c := c) (fr := fo) hsm hx
 have h := c_iNeeded (pv := pv) (c1 := c) (n1 := ng x) (fo := fo) hG0 hvt hva h63 hz (Nat.le_trans (dg_le18 (k := 3) (by omega) (by decide)) (by decide)); rw [hE] at h
 exact Calls.mono h fun ev w' ⟨v, he, s, e1, o1, hl, hc⟩ => ⟨v, he, s, q, N, e1, o1, hN, hl, hc⟩

theorem c_l10Leg {w : World} {pv : ByteArray} {vt : Value} {lvt uvt : Nat} {ts : List Rt} {vvt : List Value} {a : ByteArray} {b : ByteArray} (hvt : RtS w lvt uvt vt ts vvt) (h63 : ts.length ≤ 4611686018427387904) :
  Ret Tryz.prog 26 [.agg #[.string pv, vt], .string a, .string b] w fun v w' => v = .int .i64 (leg ts a b) ∧ Chg 0 0 w w' := by
 have hvt0 := hvt.fit
 refine sx_enter Tryz.func26 rfl Tryz.ntmps26 (nbl rfl) ?_
 refine sx_seq fun K1 k1 => sx_region ?_
 refine sx_box [.string pv, vt] rfl rfl rfl (fun b2 w3 eb2 sb2 fb2 cb2 => ?_)
 have zw3 := cb2.size
 refine av rfl rfl (wl_nil (q_n (k1 _ _ ?_)))
 refine sx_seq fun K4 k4 => ?_
 refine sx_seq fun K5 k5 => sx_region ?_
 refine sp rfl (px_field rfl xfld25x1) ?_
 refine sp rfl (px_load rfl (fb2.load1 rfl Tryz.isAgg23)) ?_
 refine mv rfl rfl (mv rfl rfl ?_)
 have f6 := hvt0.ext cb2
 refine sx_call rfl rfl Tryz.call58 (c_l10At f6 (by omega)) (fun v7 w7 p7 => ?_)
 obtain ⟨rfl, c7⟩ := p7
 have zw7 := c7.size
 refine sp rfl (px_ge rfl rfl) ?_
 refine wl_nil (q_n (k5 _ _ ?_))
 refine sx_condP rfl (fun h64 => ?_) (fun h64 => ?_)
 ·
  refine sx_seq fun K8 k8 => sx_region ?_
  refine av rfl rfl (wl_nil (q_n (k8 _ _ ?_)))
  refine sx_retc ?_
  refine q_r (sx_ret1 Tryz.results26 rfl ?_)
  exact ⟨(by unfold leg; rw [if_pos h64]), (cb2.t c7)⟩
 refine sx_skip ?_
 refine q_n (k4 _ _ ?_)
 refine sx_seq fun K9 k9 => ?_
 refine sx_seq fun K10 k10 => sx_region ?_
 refine sp rfl (px_field rfl xfld25x1) ?_
 have f11 := fb2.ext c7
 refine sp rfl (px_load rfl (f11.load1 rfl Tryz.isAgg23)) ?_
 refine mv rfl rfl (mv rfl rfl ?_)
 have f12 := f6.ext c7
 refine sx_call rfl rfl Tryz.call58 (c_l10At f12 (by omega)) (fun v13 w13 p13 => ?_)
 obtain ⟨rfl, c13⟩ := p13
 have zw13 := c13.size
 refine sp rfl (px_ge rfl rfl) ?_
 refine wl_nil (q_n (k10 _ _ ?_))
 refine sx_sub (Sub.c 6 rfl (.c 18 rfl .nil)) ?_
 refine sx_condP rfl (fun h67 => ?_) (fun h67 => ?_)
 ·
  refine sx_seq fun K14 k14 => sx_region ?_
  refine av rfl rfl (wl_nil (q_n (k14 _ _ ?_)))
  refine sx_retc ?_
  refine q_r (sx_ret1 Tryz.results26 rfl ?_)
  exact ⟨(by unfold leg; rw [if_neg h64, if_pos h67]), ((cb2.t c7).t c13)⟩
 refine sx_skip ?_
 refine q_n (k9 _ _ ?_)
 refine sx_seq fun K15 k15 => sx_region ?_
 refine av rfl rfl (wl_nil (q_n (k15 _ _ ?_)))
 refine sx_retc ?_
 refine sx_ret1 Tryz.results26 rfl ?_
 exact ⟨(by unfold leg; rw [if_neg h64, if_neg h67]), ((cb2.t c7).t c13)⟩

theorem c_sRateHow {w : World} {pv : ByteArray} {vt : Value} {lvt uvt : Nat} {ts : List Rt} {vvt : List Value} {a : ByteArray} {b : ByteArray} (hvt : RtS w lvt uvt vt ts vvt) (h63 : ts.length ≤ 4611686018427387904) (hz : ∀ i, i < ts.length → (ts.getD i rt0).2.2.2.1.length ≤ 4611686018427387904) :
  Ret Tryz.prog 7 [.agg #[.string pv, vt], .string a, .string b] w fun v w' => v = .int .i64 (how pv ts a b) ∧ Chg 0 0 w w' := by
 have hvt0 := hvt.fit
 refine sx_enter Tryz.func7 rfl Tryz.ntmps7 (nbl rfl) ?_
 refine sx_seq fun K1 k1 => sx_region ?_
 refine sx_box [.string pv, vt] rfl rfl rfl (fun b2 w3 eb2 sb2 fb2 cb2 => ?_)
 have zw3 := cb2.size
 refine av rfl rfl (wl_nil (q_n (k1 _ _ ?_)))
 refine sx_seq fun K4 k4 => ?_
 refine sx_seq fun K5 k5 => sx_region ?_
 refine sp rfl (px_load rfl (fb2.loadA (vs := [.string pv, vt]) (look_lit rfl) Tryz.isAgg25 Tryz.sizeOf25)) ?_
 have f6 := hvt0.ext cb2
 refine sx_call rfl rfl Tryz.call24 (c_sRatesOk f6 (by omega) (by first | assumption | exact fun i hi => Nat.le_trans (hzz i hi) (by omega))) (fun v7 w7 p7 => ?_)
 obtain ⟨rfl, c7⟩ := p7
 have zw7 := c7.size
 refine sp rfl (px_notP rfl) ?_
 refine mv rfl rfl ?_
 refine sx_tmpP (t := 11) rfl (fun h75 => ?_) (fun h75 => ?_)
 ·
  refine sx_guardF rfl rfl rfl rfl rfl rfl ?_
  refine sx_guardF rfl rfl rfl rfl rfl rfl ?_
  refine sx_guardF rfl rfl rfl rfl rfl rfl ?_
  refine sp rfl (px_pick rfl rfl) ?_
  refine mv rfl rfl ?_
  refine sx_guardF rfl rfl rfl rfl rfl rfl ?_
  refine sx_guardF rfl rfl rfl rfl rfl rfl ?_
  refine sx_guardF rfl rfl rfl rfl rfl rfl ?_
  refine sp rfl (px_pick rfl rfl) ?_
  refine wl_nil (q_n (k5 _ _ ?_))
  refine sx_sub (Sub.c 1 rfl (.c 2 rfl (.c 3 rfl (.c 6 rfl (.c 20 rfl .nil))))) ?_
  refine sx_condT rfl ?_
  refine sx_seq fun K8 k8 => sx_region ?_
  refine av rfl rfl (wl_nil (q_n (k8 _ _ ?_)))
  refine sx_retc ?_
  refine q_r (sx_ret1 Tryz.results7 rfl ?_)
  exact ⟨(by unfold how; first | grind | simp_all), (cb2.t c7)⟩
 refine sx_guardT rfl rfl rfl ?_
 refine mv rfl rfl ?_
 refine sx_guardT rfl rfl rfl ?_
 refine sx_call rfl rfl Tryz.call25 (c_sCurKnown) (fun v9 w9 p9 => ?_)
 obtain ⟨rfl, c9⟩ := p9
 have zw9 := c9.size
 refine sx_guardT rfl rfl rfl ?_
 refine sp rfl (px_notP rfl) ?_
 refine sp rfl (px_pick rfl rfl) ?_
 refine mv rfl rfl ?_
 refine sx_tmpP (t := 16) rfl (fun h75x1 => ?_) (fun h75x1 => ?_)
 ·
  refine sx_guardF rfl rfl rfl rfl rfl rfl ?_
  refine sx_guardF rfl rfl rfl rfl rfl rfl ?_
  refine sx_guardF rfl rfl rfl rfl rfl rfl ?_
  refine sp rfl (px_pick rfl rfl) ?_
  refine wl_nil (q_n (k5 _ _ ?_))
  refine sx_sub (Sub.c 1 rfl (.c 2 rfl (.c 3 rfl (.c 6 rfl (.c 20 rfl .nil))))) ?_
  refine sx_condT rfl ?_
  refine sx_seq fun K10 k10 => sx_region ?_
  refine av rfl rfl (wl_nil (q_n (k10 _ _ ?_)))
  refine sx_retc ?_
  refine q_r (sx_ret1 Tryz.results7 rfl ?_)
  exact ⟨(by unfold how; first | grind | simp_all), ((cb2.t c7).t c9)⟩
 refine sx_guardT rfl rfl rfl ?_
 refine mv rfl rfl ?_
 refine sx_guardT rfl rfl rfl ?_
 refine sx_call rfl rfl Tryz.call25 (c_sCurKnown) (fun v11 w11 p11 => ?_)
 obtain ⟨rfl, c11⟩ := p11
 have zw11 := c11.size
 refine sx_guardT rfl rfl rfl ?_
 refine sp rfl (px_notP rfl) ?_
 refine sp rfl (px_pick rfl rfl) ?_
 refine wl_nil (q_n (k5 _ _ ?_))
 refine sx_sub (Sub.c 1 rfl (.c 2 rfl (.c 3 rfl (.c 6 rfl (.c 20 rfl .nil))))) ?_
 refine sx_condP rfl (fun h75x2 => ?_) (fun h75x2 => ?_)
 ·
  refine sx_seq fun K12 k12 => sx_region ?_
  refine av rfl rfl (wl_nil (q_n (k12 _ _ ?_)))
  refine sx_retc ?_
  refine q_r (sx_ret1 Tryz.results7 rfl ?_)
  exact ⟨(by unfold how; first | grind | simp_all), (((cb2.t c7).t c9).t c11)⟩
 refine sx_skip ?_
 refine q_n (k4 _ _ ?_)
 refine sx_seq fun K13 k13 => ?_
 refine sx_seq fun K14 k14 => sx_region ?_
 refine mv rfl rfl (mv rfl rfl (sp rfl (px_eqS rfl rfl) ?_))
 refine wl_nil (q_n (k14 _ _ ?_))
 refine sx_condP rfl (fun h78 => ?_) (fun h78 => ?_)
 ·
  refine sx_seq fun K15 k15 => sx_region ?_
  refine av rfl rfl (wl_nil (q_n (k15 _ _ ?_)))
  refine sx_retc ?_
  refine q_r (sx_ret1 Tryz.results7 rfl ?_)
  exact ⟨(by unfold how; first | grind | simp_all), (((cb2.t c7).t c9).t c11)⟩
 refine sx_skip ?_
 refine q_n (k13 _ _ ?_)
 refine sx_seq fun K16 k16 => sx_region ?_
 have f19 := ((fb2.ext c7).ext c9).ext c11
 refine sp rfl (px_load rfl (f19.loadA (vs := [.string pv, vt]) (look_lit rfl) Tryz.isAgg25 Tryz.sizeOf25)) ?_
 refine mv rfl rfl (mv rfl rfl ?_)
 have f22 := ((f6.ext c7).ext c9).ext c11
 refine sx_call rfl rfl Tryz.call26 (c_l10Leg f22 (by omega)) (fun v23 w23 p23 => ?_)
 obtain ⟨rfl, c23⟩ := p23
 have zw23 := c23.size
 refine av rfl rfl (wl_nil (q_n (k16 _ _ ?_)))
 refine sx_seq fun K24 k24 => ?_
 refine sx_seq fun K25 k25 => sx_region ?_
 refine mv rfl rfl (sp rfl (px_ne rfl rfl) ?_)
 refine wl_nil (q_n (k25 _ _ ?_))
 refine sx_sub (Sub.c 1 rfl (.c 2 rfl (.c 3 rfl (.c 6 rfl (.c 7 rfl (.c 29 rfl .nil)))))) ?_
 refine sx_condP rfl (fun h82 => ?_) (fun h82 => ?_)
 ·
  refine sx_seq fun K26 k26 => sx_region ?_
  refine mv rfl rfl (av rfl rfl (wl_nil (q_n (k26 _ _ ?_))))
  refine sx_retc ?_
  refine q_r (sx_ret1 Tryz.results7 rfl ?_)
  exact ⟨(by unfold how; first | grind | simp_all), ((((cb2.t c7).t c9).t c11).t c23)⟩
 refine sx_skip ?_
 refine q_n (k24 _ _ ?_)
 refine sx_seq fun K27 k27 => ?_
 refine sx_seq fun K28 k28 => sx_region ?_
 refine mv rfl rfl (sp rfl (px_field rfl xfld25x0) ?_)
 have f29 := f19.ext c23
 refine sp rfl (px_load rfl (f29.load1 rfl Tryz.isAgg9)) ?_
 refine sp rfl (px_neS rfl rfl) ?_
 refine mv rfl rfl ?_
 refine sx_tmpP (t := 35) rfl (fun h85 => ?_) (fun h85 => ?_)
 ·
  refine sx_guardT rfl rfl rfl ?_
  refine mv rfl rfl ?_
  refine sx_guardT rfl rfl rfl ?_
  refine sp rfl (px_field rfl xfld25x0) ?_
  refine sx_guardT rfl rfl rfl ?_
  refine sp rfl (px_load rfl (f29.load1 rfl Tryz.isAgg9)) ?_
  refine sx_guardT rfl rfl rfl ?_
  refine sp rfl (px_neS rfl rfl) ?_
  refine sp rfl (px_pick rfl rfl) ?_
  refine mv rfl rfl ?_
  refine sx_tmpP (t := 41) rfl (fun h85x1 => ?_) (fun h85x1 => ?_)
  ·
   refine sx_guardT rfl rfl rfl ?_
   refine sp rfl (px_load rfl (f29.loadA (vs := [.string pv, vt]) (look_lit rfl) Tryz.isAgg25 Tryz.sizeOf25)) ?_
   refine sx_guardT rfl rfl rfl ?_
   refine mv rfl rfl ?_
   refine sx_guardT rfl rfl rfl ?_
   refine sp rfl (px_field rfl xfld25x0) ?_
   refine sx_guardT rfl rfl rfl ?_
   refine sp rfl (px_load rfl (f29.load1 rfl Tryz.isAgg9)) ?_
   refine sx_guardT rfl rfl rfl ?_
   have f30 := f22.ext c23
   refine sx_call rfl rfl Tryz.call26 (c_l10Leg f30 (by omega)) (fun v31 w31 p31 => ?_)
   obtain ⟨rfl, c31⟩ := p31
   have zw31 := c31.size
   refine sx_guardT rfl rfl rfl ?_
   refine sp rfl (px_ne rfl rfl) ?_
   refine sp rfl (px_pick rfl rfl) ?_
   refine mv rfl rfl ?_
   refine sx_tmpP (t := 49) rfl (fun h85x2 => ?_) (fun h85x2 => ?_)
   ·
    refine sx_guardT rfl rfl rfl ?_
    have f32 := f29.ext c31
    refine sp rfl (px_load rfl (f32.loadA (vs := [.string pv, vt]) (look_lit rfl) Tryz.isAgg25 Tryz.sizeOf25)) ?_
    refine sx_guardT rfl rfl rfl ?_
    refine sp rfl (px_field rfl xfld25x0) ?_
    refine sx_guardT rfl rfl rfl ?_
    refine sp rfl (px_load rfl (f32.load1 rfl Tryz.isAgg9)) ?_
    refine sx_guardT rfl rfl rfl ?_
    refine mv rfl rfl ?_
    refine sx_guardT rfl rfl rfl ?_
    have f33 := f30.ext c31
    refine sx_call rfl rfl Tryz.call26 (c_l10Leg f33 (by omega)) (fun v34 w34 p34 => ?_)
    obtain ⟨rfl, c34⟩ := p34
    have zw34 := c34.size
    refine sx_guardT rfl rfl rfl ?_
    refine sp rfl (px_ne rfl rfl) ?_
    refine sp rfl (px_pick rfl rfl) ?_
    refine wl_nil (q_n (k28 _ _ ?_))
    refine sx_sub (Sub.c 6 rfl (.c 56 rfl .nil)) ?_
    refine sx_condP rfl (fun h85x3 => ?_) (fun h85x3 => ?_)
    ·
     refine sx_seq fun K35 k35 => sx_region ?_
     refine av rfl rfl (wl_nil (q_n (k35 _ _ ?_)))
     refine sx_retc ?_
     refine q_r (sx_ret1 Tryz.results7 rfl ?_)
     exact ⟨(by unfold how; first | grind | simp_all), ((((((cb2.t c7).t c9).t c11).t c23).t c31).t c34)⟩
    refine sx_skip ?_
    refine q_n (k27 _ _ ?_)
    refine sx_seq fun K36 k36 => sx_region ?_
    refine av rfl rfl (wl_nil (q_n (k36 _ _ ?_)))
    refine sx_retc ?_
    refine sx_ret1 Tryz.results7 rfl ?_
    exact ⟨(by unfold how; first | grind | simp_all), ((((((cb2.t c7).t c9).t c11).t c23).t c31).t c34)⟩
   refine sx_guardF rfl rfl rfl rfl rfl rfl ?_
   refine sx_guardF rfl rfl rfl rfl rfl rfl ?_
   refine sx_guardF rfl rfl rfl rfl rfl rfl ?_
   refine sx_guardF rfl rfl rfl rfl rfl rfl ?_
   refine sx_guardF rfl rfl rfl rfl rfl rfl ?_
   refine sx_guardF rfl rfl rfl rfl rfl rfl ?_
   refine sp rfl (px_pick rfl rfl) ?_
   refine wl_nil (q_n (k28 _ _ ?_))
   refine sx_sub (Sub.c 6 rfl (.c 56 rfl .nil)) ?_
   refine sx_condF rfl ?_
   refine sx_skip ?_
   refine q_n (k27 _ _ ?_)
   refine sx_seq fun K37 k37 => sx_region ?_
   refine av rfl rfl (wl_nil (q_n (k37 _ _ ?_)))
   refine sx_retc ?_
   refine sx_ret1 Tryz.results7 rfl ?_
   exact ⟨(by unfold how; first | grind | simp_all), (((((cb2.t c7).t c9).t c11).t c23).t c31)⟩
  refine sx_guardF rfl rfl rfl rfl rfl rfl ?_
  refine sx_guardF rfl rfl rfl rfl rfl rfl ?_
  refine sx_guardF rfl rfl rfl rfl rfl rfl ?_
  refine sx_guardF rfl rfl rfl rfl rfl rfl ?_
  refine sx_guardF rfl rfl rfl rfl rfl rfl ?_
  refine sx_guardF rfl rfl rfl rfl rfl rfl ?_
  refine sp rfl (px_pick rfl rfl) ?_
  refine mv rfl rfl ?_
  refine sx_guardF rfl rfl rfl rfl rfl rfl ?_
  refine sx_guardF rfl rfl rfl rfl rfl rfl ?_
  refine sx_guardF rfl rfl rfl rfl rfl rfl ?_
  refine sx_guardF rfl rfl rfl rfl rfl rfl ?_
  refine sx_guardF rfl rfl rfl rfl rfl rfl ?_
  refine sx_guardF rfl rfl rfl rfl rfl rfl ?_
  refine sp rfl (px_pick rfl rfl) ?_
  refine wl_nil (q_n (k28 _ _ ?_))
  refine sx_sub (Sub.c 6 rfl (.c 56 rfl .nil)) ?_
  refine sx_condF rfl ?_
  refine sx_skip ?_
  refine q_n (k27 _ _ ?_)
  refine sx_seq fun K38 k38 => sx_region ?_
  refine av rfl rfl (wl_nil (q_n (k38 _ _ ?_)))
  refine sx_retc ?_
  refine sx_ret1 Tryz.results7 rfl ?_
  exact ⟨(by unfold how; first | grind | simp_all), ((((cb2.t c7).t c9).t c11).t c23)⟩
 refine sx_guardF rfl rfl rfl rfl rfl rfl ?_
 refine sx_guardF rfl rfl rfl rfl rfl rfl ?_
 refine sx_guardF rfl rfl rfl rfl rfl rfl ?_
 refine sx_guardF rfl rfl rfl rfl rfl rfl ?_
 refine sp rfl (px_pick rfl rfl) ?_
 refine mv rfl rfl ?_
 refine sx_guardF rfl rfl rfl rfl rfl rfl ?_
 refine sx_guardF rfl rfl rfl rfl rfl rfl ?_
 refine sx_guardF rfl rfl rfl rfl rfl rfl ?_
 refine sx_guardF rfl rfl rfl rfl rfl rfl ?_
 refine sx_guardF rfl rfl rfl rfl rfl rfl ?_
 refine sx_guardF rfl rfl rfl rfl rfl rfl ?_
 refine sp rfl (px_pick rfl rfl) ?_
 refine mv rfl rfl ?_
 refine sx_guardF rfl rfl rfl rfl rfl rfl ?_
 refine sx_guardF rfl rfl rfl rfl rfl rfl ?_
 refine sx_guardF rfl rfl rfl rfl rfl rfl ?_
 refine sx_guardF rfl rfl rfl rfl rfl rfl ?_
 refine sx_guardF rfl rfl rfl rfl rfl rfl ?_
 refine sx_guardF rfl rfl rfl rfl rfl rfl ?_
 refine sp rfl (px_pick rfl rfl) ?_
 refine wl_nil (q_n (k28 _ _ ?_))
 refine sx_sub (Sub.c 6 rfl (.c 56 rfl .nil)) ?_
 refine sx_condF rfl ?_
 refine sx_skip ?_
 refine q_n (k27 _ _ ?_)
 refine sx_seq fun K39 k39 => sx_region ?_
 refine av rfl rfl (wl_nil (q_n (k39 _ _ ?_)))
 refine sx_retc ?_
 refine sx_ret1 Tryz.results7 rfl ?_
 exact ⟨(by unfold how; first | grind | simp_all), ((((cb2.t c7).t c9).t c11).t c23)⟩

theorem c_iMoneyRatK {w : World} {c : ByteArray} {va : Value} {lva uva : Nat} {x : Int} (hG0 : Glob w) (hva : Sl w lva uva va (dg x.natAbs)) (hM : MOk c (ng x) (dg x.natAbs)) :
  Ret Tryz.prog 12 [.agg #[.string c, .bool (ng x), va]] w fun v w' => ∃ s t ls us lt ut, v = .agg #[.bool (ng x), s, t] ∧ OwnI w' (ls) (us) s intT (dg (x).natAbs) ∧ OwnI w' (lt) (ut) t intT (dg 1) ∧ (w.heap.size ≤ ls ∧ us ≤ w'.heap.size ∧ w.heap.size ≤ lt ∧ ut ≤ w'.heap.size ∧ (us ≤ lt ∨ ut ≤ ls)) ∧ (ROk (ng x) (dg (x).natAbs) (dg 1)) ∧ Chg 0 0 w w' := by
 have hK := ROk_whole (x := x) (Nat.le_trans hM.2.2 (by decide))
 have h := c_iMoneyRat (c1 := c) (n1 := ng x) hG0 hva (Nat.le_trans hM.2.2 (by decide)); rw [mRat_ok hM, ← dg_1] at h
 exact Calls.mono h fun ev w' ⟨v, he, s, t, ls, us, lt, ut, e1, o1, o2, hd, _, hc⟩ => ⟨v, he, s, t, ls, us, lt, ut, e1, o1, o2, hd, hK, hc⟩

theorem c_iExactK {w : World} {pv : ByteArray} {vt : Value} {lvt uvt : Nat} {ts : List Rt} {vvt : List Value} {c : ByteArray} {va : Value} {lva uva : Nat} {n : Int} {to : ByteArray} (hG0 : Glob w) (hvt : RtS w lvt uvt vt ts vvt) (hva : Sl w lva uva va (dg n.natAbs)) (h63 : ts.length ≤ 4611686018427387904) (hz : ∀ i, i < ts.length → (ts.getD i rt0).2.2.2.1.length ≤ 4611686018427387904) (hM : MOk c (ng n) (dg n.natAbs)) (hu : ∃ (y : Int) (e : Nat), uRt pv ts c to = (ng y, dg y.natAbs, dg e, true) ∧ ROk (ng y) (dg y.natAbs) (dg e) ∧ 0 < y ∧ y.natAbs ≤ 1000000000000 ∧ e ≤ 1000000000000) :
  Ret Tryz.prog 8 [.agg #[.string pv, vt], .agg #[.string c, .bool (ng n), va], .string to] w fun v w' => ∃ s t ls us lt ut xx ee, v = .tuple #[.agg #[.bool (ng xx), s, t], .bool (true)] ∧ OwnI w' (ls) (us) s intT (dg (xx).natAbs) ∧ OwnI w' (lt) (ut) t intT (dg ee) ∧ (w.heap.size ≤ ls ∧ us ≤ w'.heap.size ∧ w.heap.size ≤ lt ∧ ut ≤ w'.heap.size ∧ (us ≤ lt ∨ ut ≤ ls)) ∧ (ROk (ng xx) (dg (xx).natAbs) (dg ee)) ∧ ((∀ (y : Int) (e : Nat), uRt pv ts c to = (ng y, dg y.natAbs, dg e, true) → xx * (e : Int) = n * y * (ee : Int))) ∧ Chg 0 0 w w' := by
 obtain ⟨y, e, hU, hR, hy, y1, e1⟩ := hu
 obtain ⟨X, E, hE, hK, hv⟩ := exct_form (pv := pv) (ts := ts) hM hU hR hy y1 e1
 have h := c_iExact (pv := pv) (c1 := c) (n1 := ng n) (to := to) hG0 hvt hva h63 hz (Nat.le_trans hM.2.2 (by decide)); rw [hE] at h
 exact Calls.mono h fun ev w' ⟨v, he, s, t, ls, us, lt, ut, e1, o1, o2, hd, _, hc⟩ => ⟨v, he, s, t, ls, us, lt, ut, X, E, e1, o1, o2, hd, hK, fun y2 e2 h2 => by obtain ⟨rfl, rfl⟩ := tup_inj2 (hU.symm.trans h2); exact hv, hc⟩

theorem c_iMoneyOfK {w : World} {c : ByteArray} {k : Int} (hG0 : Glob w) (hk : k = 1) (hc : Known c) :
  Ret Tryz.prog 9 [.string c, .int .i64 k] w fun v w' => ∃ s, v = .tuple #[.agg #[.string (c), .bool (ng ((1 : Int))), s], .bool (true)] ∧ OwnI w' w.heap.size w'.heap.size s intT (dg ((1 : Int)).natAbs) ∧ (MOk c (ng ((1 : Int))) (dg ((1 : Int)).natAbs)) ∧ Chg 0 0 w w' := by
 subst hk; have hM : MOk c (ng (1 : Int)) (dg (1 : Int).natAbs) := MOk_iff.2 ⟨hc, dg_le18 (by decide) (by decide)⟩
 have h := c_iMoneyOf (c := c) (k := 1) hG0 (by omega); rw [mR_ok hM] at h
 exact Calls.mono h fun ev w' ⟨v, he, s, e1, o1, _, hc⟩ => ⟨v, he, s, e1, o1, hM, hc⟩

theorem c_iMoneySubK {w : World} {c : ByteArray} {va : Value} {lva uva : Nat} {x : Int} {c2 : ByteArray} {vb : Value} {lvb uvb : Nat} {y : Int} (hG0 : Glob w) (hva : Sl w lva uva va (dg x.natAbs)) (hvb : Sl w lvb uvb vb (dg y.natAbs)) (hc : c2 = c) (hc0 : Known c) (hx : 0 ≤ x ∧ x ≤ 100000000000000000) (hy : y = 1) :
  Ret Tryz.prog 10 [.agg #[.string c, .bool (ng x), va], .agg #[.string c2, .bool (ng y), vb]] w fun v w' => ∃ s, v = .tuple #[.agg #[.string (c), .bool (ng (x - 1)), s], .bool (true)] ∧ OwnI w' w.heap.size w'.heap.size s intT (dg (x - 1).natAbs) ∧ (MOk c (ng (x - 1)) (dg (x - 1).natAbs)) ∧ Chg 0 0 w w' := by
 subst hc; subst hy; have lx : (dg x.natAbs).length ≤ 4 := dg_le18 (by omega) (by decide)
 have l1 : (dg (1 : Int).natAbs).length ≤ 4 := dg_le18 (by decide) (by decide)
 have hM : MOk c2 (ng (x - 1)) (dg (x - 1).natAbs) := MOk_iff.2 ⟨hc0, dg_le18 (by omega) (by decide)⟩
 have h := c_iMoneySub (c1 := c2) (n1 := ng x) (c2 := c2) (n2 := ng 1) hG0 hva hvb (by omega); rw [mBin_ok (show Alike c2 (ng x) (dg x.natAbs) c2 (ng 1) (dg (1 : Int).natAbs) from ⟨MOk_iff.2 ⟨hc0, lx⟩, MOk_iff.2 ⟨hc0, l1⟩, rfl⟩), show gSub x 1 = x - 1 from rfl, mR_ok hM] at h
 exact Calls.mono h fun ev w' ⟨v, he, s, e1, o1, _, hc⟩ => ⟨v, he, s, e1, o1, hM, hc⟩

end Go.Proofs.YtlnemcbdbehehaaGreatDoor
