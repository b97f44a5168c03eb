/- Contracts of functions of the program: what each call returns, and that it changes nothing that was. Conditions: as each says. -/
import Derived.Test.YtgmoahoocakpmaaTy
import Derived.Test.YtgmoahoocakpmaaNatK
import Derived.Test.YtgmoahoocakpmaaSxW
import Derived.Test.YtgmoahoocakpmaaNatS
import Derived.Test.YtgmoahoocakpmaaSxP
import Derived.Test.YtgmoahoocakpmaaRm
import Derived.Test.YtgmoahoocakpmaaL0
import Derived.Test.YtgmoahoocakpmaaL1
import Derived.Test.YtgmoahoocakpmaaL2
set_option linter.unusedVariables false
set_option linter.unusedSimpArgs false
namespace Go.Proofs.Ytgmoahoocakpmaa
open Go Go.RowKit
set_option maxRecDepth 100000
theorem c_iRatNegK {w : World} {va : Value} {lva uva : Nat} {x : Int} {vd : Value} {lvd uvd : Nat} {e : Nat} (hva : Sl w lva uva va (dg x.natAbs)) (hvd : Sl w lvd uvd vd (dg e)) (hR : ROk (ng x) (dg x.natAbs) (dg e)) :
  Ret Try.prog 6 [.agg #[.bool (ng x), va, vd]] w fun v w' => ∃ s t ls us lt ut, v = .tuple #[.agg #[.bool (ng (-x)), s, t], .bool (true)] ∧ OwnI w' (ls) (us) s intT (dg (-x).natAbs) ∧ OwnI w' (lt) (ut) t intT (dg e) ∧ (w.heap.size ≤ ls ∧ us ≤ w'.heap.size ∧ w.heap.size ≤ lt ∧ ut ≤ w'.heap.size ∧ (us ≤ lt ∨ ut ≤ ls)) ∧ (ROk (ng (-x)) (dg (-x).natAbs) (dg e)) ∧ Chg 0 0 w w' := by
 have hva0 := hva.fit
 have hvd0 := hvd.fit
 have hi := ROk_iff.1 hR
 refine sx_enter Try.func6 rfl Try.ntmps6 (nbl rfl) ?_
 refine sx_seq fun K1 k1 => sx_region ?_
 refine sx_box [.bool (ng x), va, vd] rfl rfl rfl (fun b2 w3 eb2 sb2 fb2 cb2 => ?_)
 have zw3 := cb2.size
 refine sx_alloc [.bool false, (.slice none 0 0), (.slice none 0 0)] rfl Try.zeroValue27 rfl (fun b4 w5 eb4 sb4 fb4 cb4 => ?_)
 have zw5 := cb4.size
 refine av rfl rfl (wl_nil (q_n (k1 _ _ ?_)))
 refine sx_seq fun K6 k6 => ?_
 refine sx_seq fun K7 k7 => sx_region ?_
 have f8 := fb2.ext cb4
 refine sp rfl (px_load rfl (f8.loadA (vs := [.bool (ng x), va, vd]) (look_lit rfl) Try.isAgg27 Try.sizeOf27)) ?_
 have f9 := hva0.ext cb2
 have f10 := f9.ext cb4
 have f11 := hvd0.ext cb2
 have f12 := f11.ext cb4
 refine sx_call rfl rfl Try.call31 (c_iRatOk f10 f12 (by omega)) (fun v13 w13 p13 => ?_)
 obtain ⟨rfl, c13⟩ := p13
 have zw13 := c13.size
 refine sp rfl (px_notP rfl) ?_
 refine wl_nil (q_n (k7 _ _ ?_))
 have h90 : ¬ (¬ (ROk (ng x) (dg x.natAbs) (dg e))) := fun h => h hR
 refine sx_condPF rfl h90 ?_
 refine sx_skip ?_
 refine q_n (k6 _ _ ?_)
 refine sx_seq fun K14 k14 => sx_region ?_
 have f15 := f8.ext c13
 refine sp rfl (px_load rfl (f15.loadA (vs := [.bool (ng x), va, vd]) (look_lit rfl) Try.isAgg27 Try.sizeOf27)) ?_
 have f16 := f10.ext c13
 have f17 := f12.ext c13
 refine sx_call rfl rfl Try.call32 (c_ratNeg f16 f17 (by omega) (by omega)) (fun v18 w18 p18 => ?_)
 obtain ⟨s18, t18, ls18, us18, lt18, ut18, rfl, os_18, ot_18, hd18, c18⟩ := p18
 have zw18 := c18.size
 have f21 := (fb4.ext c13).ext c18
 refine sx_store (vs := [.bool (ng (-x)), s18, t18]) rfl rfl f21 rfl Try.sizeOf27 (nbl rfl) (one_cons rfl (one_cons os_18.one (one_cons ot_18.one one_nil))) (fun w19 sw19 fw19 cw19 => ?_)
 have zw19 := cw19.size
 have gw19 : Blk w19 b4 [.bool (ng (-x)), s18, t18] 27 := fw19
 refine av rfl rfl (wl_nil (q_n (k14 _ _ ?_)))
 refine sx_retc ?_
 refine sx_ret2 Try.results6 ⟨_, rfl, gw19.loadA (vs := [.bool (ng (-x)), s18, t18]) (look_lit rfl) Try.isAgg27 Try.sizeOf27⟩ rfl ?_
 have q22 := Chg.step (l := 0) (h := 0) (Chg.zero (l := 0) (h := 0) (((cb2.t cb4).t c13).t c18)) cw19 (by omega)
 have f23 := os_18.chg cw19 (by omega)
 have f24 := ot_18.chg cw19 (by omega)
 exact ⟨_, _, _, _, _, _, rfl, f23, f24, by omega, ROk_neg hR, q22⟩

theorem c_RmName {w : World} {m : Int} (hm : 0 ≤ m ∧ m ≤ 6) :
  Ret Try.prog 10 [.int .i64 m] w fun v w' => v = .string (rmN m) ∧ Chg 0 0 w w' := by
 refine sx_enter Try.func10 rfl Try.ntmps10 (nbl rfl) ?_
 refine sx_seq fun K1 k1 => sx_region ?_
 refine av rfl rfl (wl_nil (q_n (k1 _ _ ?_)))
 refine sx_seq fun K2 k2 => ?_
 refine sx_seq fun K3 k3 => sx_region ?_
 refine mv rfl rfl (sx_call rfl rfl Try.call33 (c_isMode) (fun v4 w4 p4 => ?_))
 obtain ⟨rfl, c4⟩ := p4
 have zw4 := c4.size
 refine sp rfl (px_notP rfl) ?_
 refine wl_nil (q_n (k3 _ _ ?_))
 have h38 : ¬ (¬ (0 ≤ m ∧ m ≤ 6)) := fun h => h hm
 refine sx_condPF rfl h38 ?_
 refine sx_skip ?_
 refine q_n (k2 _ _ ?_)
 refine sx_seq fun K5 k5 => sx_region ?_
 refine sx_call rfl rfl Try.call35 (c_roundModes) (fun v6 w6 p6 => ?_)
 obtain ⟨rfl, c6⟩ := p6
 have zw6 := c6.size
 refine mv rfl rfl (sp rfl (px_indexRm rfl rfl (by omega)) ?_)
 refine sp rfl (px_fieldv rfl (xfv62x0 _)) ?_
 refine av rfl rfl (wl_nil (q_n (k5 _ _ ?_)))
 refine sx_retc ?_
 refine sx_ret1 Try.results10 rfl ?_
 exact ⟨rfl, (c4.t c6)⟩

theorem c_NameRm {w : World} {j : Int} (hj : 0 ≤ j ∧ j ≤ 6) :
  Ret Try.prog 9 [.string (rmN j)] w fun v w' => v = .tuple #[.int .i64 (j), .bool (true)] ∧ Chg 0 0 w w' := by
 refine sx_enter Try.func9 rfl Try.ntmps9 (nbl rfl) ?_
 refine sx_seq fun K1 k1 => sx_region ?_
 refine av rfl rfl (av rfl rfl (wl_nil (q_n (k1 _ _ ?_))))
 refine sx_seq fun K2 k2 => ?_
 refine sx_seq fun K3 k3 => sx_region ?_
 refine sx_call rfl rfl Try.call35 (c_roundModes) (fun v4 w4 p4 => ?_)
 obtain ⟨rfl, c4⟩ := p4
 have zw4 := c4.size
 refine mv rfl rfl (wl_nil (q_n (k3 _ _ ?_)))
 refine sx_block ?_
 refine sx_loop (fun mm aa w' => ∃ (k : Nat), Agr 17 [(0, .string (rmN j)), (6, .agg #[.string (⟨#[100, 111, 119, 110]⟩), .func (.func 69) #[] #[], .string (⟨#[117, 112]⟩), .func (.func 70) #[] #[], .string (⟨#[102, 108, 111, 111, 114]⟩), .func (.func 71) #[] #[], .string (⟨#[99, 101, 105, 108]⟩), .func (.func 72) #[] #[], .string (⟨#[104, 97, 108, 102, 100, 111, 119, 110]⟩), .func (.func 73) #[] #[], .string (⟨#[104, 97, 108, 102, 117, 112]⟩), .func (.func 74) #[] #[], .string (⟨#[104, 97, 108, 102, 101, 118, 101, 110]⟩), .func (.func 75) #[] #[]]), (7, .int .i64 ↑k)] aa ∧ Chg 0 0 w4 w' ∧ (mm = 7 - k) ∧ (k ≤ 7) ∧ ((k : Int) ≤ j)) (_) (fun a ha => ⟨0, ha.sub (Sub.c 0 rfl (.c 6 rfl (.c 7 (look_int (t := 7) rfl (by first | omega | simp)) .nil))), Chg.refl _ _ _, rfl, by omega, by omega⟩) ?_
 rintro mm aa wl5 ⟨k, hAwl5, cwl5, hm, hk, hn⟩
 refine (show cw Try.prog 17 _ _ _ wl5 from ?_) aa hAwl5
 clear hAwl5
 have zwl5 := cwl5.size
 refine sx_seq fun K6 k6 => sx_region ?_
 refine sp rfl (px_lt rfl rfl) ?_
 refine wl_nil (q_n (k6 _ _ ?_))
 refine sx_seq fun K7 k7 => ?_
 refine sx_condP rfl (fun h46 => ?_) (fun h46 => ?_)
 ·
  refine sx_skip ?_
  refine q_n (k7 _ _ ?_)
  refine sx_seq fun K8 k8 => ?_
  refine sx_block ?_
  refine sx_seq fun K9 k9 => sx_region ?_
  refine mv rfl rfl (sp rfl (px_indexRm rfl rfl (by omega)) ?_)
  refine sx_alloc [.string (⟨#[]⟩), .nilFunc] rfl Try.zeroValue62 rfl (fun b10 w11 eb10 sb10 fb10 cb10 => ?_)
  have zw11 := cb10.size
  refine av rfl rfl ?_
  refine sx_store (vs := [.string (rmN ↑k), .func (.func (rmF ↑k)) #[] #[]]) rfl rfl fb10 rfl Try.sizeOf62 (nbl rfl) (o2 rfl rfl) (fun w12 sw12 fw12 cw12 => ?_)
  have zw12 := cw12.size
  have gw12 : Blk w12 b10 [.string (rmN ↑k), .func (.func (rmF ↑k)) #[] #[]] 62 := fw12
  refine wl_nil (q_n (k9 _ _ ?_))
  refine sx_seq fun K13 k13 => sx_region ?_
  refine sp rfl (px_field rfl xfld62x0) ?_
  refine sp rfl (px_load rfl (gw12.load1 rfl Try.isAgg9)) ?_
  refine mv rfl rfl (sp rfl (px_eqS rfl rfl) ?_)
  refine wl_nil (q_n (k13 _ _ ?_))
  refine sx_condP rfl (fun h47 => ?_) (fun h47 => ?_)
  ·
   refine sx_seq fun K14 k14 => sx_region ?_
   refine mv rfl rfl (av rfl rfl (av rfl rfl (wl_nil (q_n (k14 _ _ ?_)))))
   refine sx_sub (Sub.c 0 rfl (.c 2 rfl (.c 3 rfl (.c 6 rfl (.c 7 rfl .nil))))) ?_
   refine sx_retc ?_
   refine q_br (q_r (q_r (q_br (q_r (sx_ret2 Try.results9 rfl rfl ?_)))))
   have e := rmN_inj (by omega) hj h47
   have q15 := Chg.step (l := 0) (h := 0) (Chg.zero (l := 0) (h := 0) ((c4.t cwl5).t cb10)) cw12 (by omega)
   exact ⟨by rw [e], q15⟩
  have hne : (k : Int) ≠ j := fun h => h47 (by rw [h])
  refine sx_skip ?_
  refine q_bn (q_n (k8 _ _ ?_))
  refine sx_region ?_
  refine sp rfl (px_add rfl rfl (by omega)) ?_
  refine mv rfl rfl (wl_nil ?_)
  have q16 := Chg.step (l := 0) (h := 0) (Chg.zero (l := 0) (h := 0) (cwl5.t cb10)) cw12 (by omega)
  exact fun a ha => ⟨_, by omega, (k + 1), ha.sub (Sub.c 0 rfl (.c 6 rfl (.c 7 (look_int (t := 7) rfl (by first | omega | simp)) .nil))), q16, rfl, by omega, by omega⟩
 refine sx_exit ?_
 refine q_e (q_e (q_bx (q_n (k2 _ _ ?_))))
 refine sx_seq fun K17 k17 => sx_region ?_
 refine av rfl rfl (av rfl rfl (wl_nil (q_n (k17 _ _ ?_))))
 refine sx_retc ?_
 refine sx_ret2 Try.results9 rfl rfl ?_
 omega

theorem c_iIntCmpK {w : World} {va : Value} {lva uva : Nat} {x : Int} {vb : Value} {lvb uvb : Nat} {y : Int} (hva : Sl w lva uva va (dg x.natAbs)) (hvb : Sl w lvb uvb vb (dg y.natAbs)) (hbx : (dg x.natAbs).length ≤ 50) (hby : (dg y.natAbs).length ≤ 50) :
  Ret Try.prog 11 [.agg #[.bool (ng x), va], .agg #[.bool (ng y), vb]] w fun v w' => v = .int .i64 (cmpI x y) ∧ Chg 0 0 w w' := by
 have hva0 := hva.fit
 have hvb0 := hvb.fit
 refine sx_enter Try.func11 rfl Try.ntmps11 (nbl rfl) ?_
 refine sx_seq fun K1 k1 => sx_region ?_
 refine sx_box [.bool (ng x), va] rfl rfl rfl (fun b2 w3 eb2 sb2 fb2 cb2 => ?_)
 have zw3 := cb2.size
 refine sx_box [.bool (ng y), vb] rfl rfl rfl (fun b4 w5 eb4 sb4 fb4 cb4 => ?_)
 have zw5 := cb4.size
 refine av rfl rfl (wl_nil (q_n (k1 _ _ ?_)))
 refine sx_seq fun K6 k6 => ?_
 refine sx_seq fun K7 k7 => sx_region ?_
 have f8 := fb2.ext cb4
 refine sp rfl (px_load rfl (f8.loadA (vs := [.bool (ng x), va]) (look_lit rfl) Try.isAgg25 Try.sizeOf25)) ?_
 refine sp rfl (px_load rfl (fb4.loadA (vs := [.bool (ng y), vb]) (look_lit rfl) Try.isAgg25 Try.sizeOf25)) ?_
 have f9 := hva0.ext cb2
 have f10 := f9.ext cb4
 have f11 := hvb0.ext cb2
 have f12 := f11.ext cb4
 refine sx_call rfl rfl Try.call36 (c_intsOk f10 f12 (by omega)) (fun v13 w13 p13 => ?_)
 obtain ⟨rfl, c13⟩ := p13
 have zw13 := c13.size
 refine sp rfl (px_notP rfl) ?_
 refine wl_nil (q_n (k7 _ _ ?_))
 have h114 : ¬ (¬ (IOk (ng x) (dg x.natAbs) ∧ IOk (ng y) (dg y.natAbs))) := fun h => h ⟨IOk_ng (by omega), IOk_ng (by omega)⟩
 refine sx_condPF rfl h114 ?_
 refine sx_skip ?_
 refine q_n (k6 _ _ ?_)
 refine sx_seq fun K14 k14 => sx_region ?_
 have f15 := f8.ext c13
 refine sp rfl (px_load rfl (f15.loadA (vs := [.bool (ng x), va]) (look_lit rfl) Try.isAgg25 Try.sizeOf25)) ?_
 have f16 := fb4.ext c13
 refine sp rfl (px_load rfl (f16.loadA (vs := [.bool (ng y), vb]) (look_lit rfl) Try.isAgg25 Try.sizeOf25)) ?_
 have f17 := f10.ext c13
 have f18 := f12.ext c13
 refine sx_call rfl rfl Try.call37 (c_intCmp f17 f18 (by omega) (by omega)) (fun v19 w19 p19 => ?_)
 obtain ⟨rfl, c19⟩ := p19
 have zw19 := c19.size
 refine av rfl rfl (wl_nil (q_n (k14 _ _ ?_)))
 refine sx_retc ?_
 refine sx_ret1 Try.results11 rfl ?_
 exact ⟨rfl, (((cb2.t cb4).t c13).t c19)⟩

theorem c_iIntNegK {w : World} {va : Value} {lva uva : Nat} {x : Int} (hva : Sl w lva uva va (dg x.natAbs)) (hbx : (dg x.natAbs).length ≤ 50) :
  Ret Try.prog 12 [.agg #[.bool (ng x), va]] w fun v w' => ∃ s, v = .agg #[.bool (ng (-x)), s] ∧ OwnI w' w.heap.size w'.heap.size s intT (dg (-x).natAbs) ∧ Chg 0 0 w w' := by
 have hva0 := hva.fit
 refine sx_enter Try.func12 rfl Try.ntmps12 (nbl rfl) ?_
 refine sx_seq fun K1 k1 => sx_region ?_
 refine sx_box [.bool (ng x), va] rfl rfl rfl (fun b2 w3 eb2 sb2 fb2 cb2 => ?_)
 have zw3 := cb2.size
 refine sx_alloc [.bool false, (.slice none 0 0)] rfl Try.zeroValue25 rfl (fun b4 w5 eb4 sb4 fb4 cb4 => ?_)
 have zw5 := cb4.size
 refine wl_nil (q_n (k1 _ _ ?_))
 refine sx_seq fun K6 k6 => ?_
 refine sx_seq fun K7 k7 => sx_region ?_
 have f8 := fb2.ext cb4
 refine sp rfl (px_load rfl (f8.loadA (vs := [.bool (ng x), va]) (look_lit rfl) Try.isAgg25 Try.sizeOf25)) ?_
 have f9 := hva0.ext cb2
 have f10 := f9.ext cb4
 refine sx_call rfl rfl Try.call38 (c_iIntOk f10 (by omega)) (fun v11 w11 p11 => ?_)
 obtain ⟨rfl, c11⟩ := p11
 have zw11 := c11.size
 refine sp rfl (px_notP rfl) ?_
 refine wl_nil (q_n (k7 _ _ ?_))
 have h60 : ¬ (¬ (IOk (ng x) (dg x.natAbs))) := fun h => h (IOk_ng (by omega))
 refine sx_condPF rfl h60 ?_
 refine sx_skip ?_
 refine q_n (k6 _ _ ?_)
 refine sx_seq fun K12 k12 => sx_region ?_
 have f13 := f8.ext c11
 refine sp rfl (px_load rfl (f13.loadA (vs := [.bool (ng x), va]) (look_lit rfl) Try.isAgg25 Try.sizeOf25)) ?_
 have f14 := f10.ext c11
 refine sx_call rfl rfl Try.call39 (c_intNeg f14 (by omega)) (fun v15 w15 p15 => ?_)
 obtain ⟨s15, rfl, os_15, c15⟩ := p15
 have zw15 := c15.size
 have f18 := (fb4.ext c11).ext c15
 refine sx_store (vs := [.bool (ng (-x)), s15]) rfl rfl f18 rfl Try.sizeOf25 (nbl rfl) (one_cons rfl (one_cons os_15.one one_nil)) (fun w16 sw16 fw16 cw16 => ?_)
 have zw16 := cw16.size
 have gw16 : Blk w16 b4 [.bool (ng (-x)), s15] 25 := fw16
 refine wl_nil (q_n (k12 _ _ ?_))
 refine sx_retc ?_
 refine sx_ret1 Try.results12 ⟨_, rfl, gw16.loadA (vs := [.bool (ng (-x)), s15]) (look_lit rfl) Try.isAgg25 Try.sizeOf25⟩ ?_
 have q19 := Chg.step (l := 0) (h := 0) (Chg.zero (l := 0) (h := 0) (((cb2.t cb4).t c11).t c15)) cw16 (by omega)
 have f20 := os_15.chg cw16 (by omega)
 exact ⟨_, rfl, (Own.mono f20 (by omega) (by omega)), q19⟩

theorem c_iRatHalfK {w : World} {va : Value} {lva uva : Nat} {x : Int} {vd : Value} {lvd uvd : Nat} {e : Nat} (hva : Sl w lva uva va (dg x.natAbs)) (hvd : Sl w lvd uvd vd (dg e)) (hR : ROk (ng x) (dg x.natAbs) (dg e)) :
  Ret Try.prog 13 [.agg #[.bool (ng x), va, vd]] w fun v w' => v = .bool (decide (e = 2)) ∧ Chg 0 0 w w' := by
 have hva0 := hva.fit
 have hvd0 := hvd.fit
 have hi := ROk_iff.1 hR
 refine sx_enter Try.func13 rfl Try.ntmps13 (nbl rfl) ?_
 refine sx_seq fun K1 k1 => sx_region ?_
 refine sx_box [.bool (ng x), va, vd] rfl rfl rfl (fun b2 w3 eb2 sb2 fb2 cb2 => ?_)
 have zw3 := cb2.size
 refine av rfl rfl (wl_nil (q_n (k1 _ _ ?_)))
 refine sx_seq fun K4 k4 => sx_region ?_
 refine sp rfl (px_load rfl (fb2.loadA (vs := [.bool (ng x), va, vd]) (look_lit rfl) Try.isAgg27 Try.sizeOf27)) ?_
 have f5 := hva0.ext cb2
 have f6 := hvd0.ext cb2
 refine sx_call rfl rfl Try.call31 (c_iRatOk f5 f6 (by omega)) (fun v7 w7 p7 => ?_)
 obtain ⟨rfl, c7⟩ := p7
 have zw7 := c7.size
 refine mv rfl rfl ?_
 refine sx_tmpP (t := 5) rfl (fun h70 => ?_) (fun h70 => ?_)
 ·
  refine sx_guardT rfl rfl rfl ?_
  refine sp rfl (px_field rfl xfld27x1) ?_
  refine sx_guardT rfl rfl rfl ?_
  have f8 := fb2.ext c7
  refine sp rfl (px_load rfl (f8.load1 rfl Try.isAgg23)) ?_
  refine sx_guardT rfl rfl rfl ?_
  have f9 := f6.ext c7
  refine sp rfl (px_len rfl Try.underlying23 f9) ?_
  refine sx_guardT rfl rfl rfl ?_
  refine sp rfl (px_eq rfl rfl) ?_
  refine sp rfl (px_pick rfl rfl) ?_
  refine mv rfl rfl ?_
  refine sx_tmpP (t := 11) rfl (fun h70x1 => ?_) (fun h70x1 => ?_)
  ·
   refine sx_guardT rfl rfl rfl ?_
   refine sp rfl (px_field rfl xfld27x1) ?_
   refine sx_guardT rfl rfl rfl ?_
   refine sp rfl (px_load rfl (f8.load1 rfl Try.isAgg23)) ?_
   refine sx_guardT rfl rfl rfl ?_
   refine sp rfl (px_index1 (j := 0) rfl rfl (by omega) Try.underlying23 Try.sizeOf3 f9 (by omega)) ?_
   refine sx_guardT rfl rfl rfl ?_
   refine sp rfl (px_load rfl (f9.load1 (at_int (by omega)) Try.isAgg3)) ?_
   refine sx_guardT rfl rfl rfl ?_
   refine sp rfl (px_eq rfl rfl) ?_
   refine sp rfl (px_pick rfl rfl) ?_
   refine av rfl rfl (wl_nil (q_n (k4 _ _ ?_)))
   refine sx_sub (Sub.c 2 rfl .nil) ?_
   refine sx_retc ?_
   refine sx_ret1 Try.results13 rfl ?_
   exact ⟨(by have hk := half_iff (e := e); first | exact bTrue (by grind) | exact bFalse (by grind) | exact bIff (by grind)), (cb2.t c7)⟩
  refine sx_guardF rfl rfl rfl rfl rfl rfl ?_
  refine sx_guardF rfl rfl rfl rfl rfl rfl ?_
  refine sx_guardF rfl rfl rfl rfl rfl rfl ?_
  refine sx_guardF rfl rfl rfl rfl rfl rfl ?_
  refine sx_guardF rfl rfl rfl rfl rfl rfl ?_
  refine sp rfl (px_pick rfl rfl) ?_
  refine av rfl rfl (wl_nil (q_n (k4 _ _ ?_)))
  refine sx_sub (Sub.c 2 rfl .nil) ?_
  refine sx_retc ?_
  refine sx_ret1 Try.results13 rfl ?_
  exact ⟨(by have hk := half_iff (e := e); first | exact bTrue (by grind) | exact bFalse (by grind) | exact bIff (by grind)), (cb2.t c7)⟩
 refine sx_guardF rfl rfl rfl rfl rfl rfl ?_
 refine sx_guardF rfl rfl rfl rfl rfl rfl ?_
 refine sx_guardF rfl rfl rfl rfl rfl rfl ?_
 refine sx_guardF rfl rfl rfl rfl rfl rfl ?_
 refine sp rfl (px_pick rfl rfl) ?_
 refine mv rfl rfl ?_
 refine sx_guardF rfl rfl rfl rfl rfl rfl ?_
 refine sx_guardF rfl rfl rfl rfl rfl rfl ?_
 refine sx_guardF rfl rfl rfl rfl rfl rfl ?_
 refine sx_guardF rfl rfl rfl rfl rfl rfl ?_
 refine sx_guardF rfl rfl rfl rfl rfl rfl ?_
 refine sp rfl (px_pick rfl rfl) ?_
 refine av rfl rfl (wl_nil (q_n (k4 _ _ ?_)))
 refine sx_sub (Sub.c 2 rfl .nil) ?_
 refine sx_retc ?_
 refine sx_ret1 Try.results13 rfl ?_
 exact ⟨(by have hk := half_iff (e := e); first | exact bTrue (by grind) | exact bFalse (by grind) | exact bIff (by grind)), (cb2.t c7)⟩

theorem c_iRatCmpK {w : World} {va1 : Value} {lva1 uva1 : Nat} {x1 : Int} {vd1 : Value} {lvd1 uvd1 : Nat} {e1 : Nat} {va2 : Value} {lva2 uva2 : Nat} {x2 : Int} {vd2 : Value} {lvd2 uvd2 : Nat} {e2 : Nat} (hva1 : Sl w lva1 uva1 va1 (dg x1.natAbs)) (hvd1 : Sl w lvd1 uvd1 vd1 (dg e1)) (hva2 : Sl w lva2 uva2 va2 (dg x2.natAbs)) (hvd2 : Sl w lvd2 uvd2 vd2 (dg e2)) (hR1 : ROk (ng x1) (dg x1.natAbs) (dg e1)) (hR2 : ROk (ng x2) (dg x2.natAbs) (dg e2)) :
  Ret Try.prog 18 [.agg #[.bool (ng x1), va1, vd1], .agg #[.bool (ng x2), va2, vd2]] w fun v w' => v = .int .i64 (cmpI (x1 * ((e2 : Nat) : Int)) (x2 * ((e1 : Nat) : Int))) ∧ Chg 0 0 w w' := by
 have hva10 := hva1.fit
 have hvd10 := hvd1.fit
 have hva20 := hva2.fit
 have hvd20 := hvd2.fit
 have hi1 := ROk_iff.1 hR1
 have hi2 := ROk_iff.1 hR2
 have l1 := len_mul x1.natAbs e2
 have l2 := len_mul x2.natAbs e1
 have a1 : (x1 * (e2 : Int)).natAbs = x1.natAbs * e2 := by rw [Int.natAbs_mul, Int.natAbs_natCast]
 have a2 : (x2 * (e1 : Int)).natAbs = x2.natAbs * e1 := by rw [Int.natAbs_mul, Int.natAbs_natCast]
 refine sx_enter Try.func18 rfl Try.ntmps18 (nbl rfl) ?_
 refine sx_seq fun K1 k1 => sx_region ?_
 refine sx_box [.bool (ng x1), va1, vd1] rfl rfl rfl (fun b2 w3 eb2 sb2 fb2 cb2 => ?_)
 have zw3 := cb2.size
 refine sx_box [.bool (ng x2), va2, vd2] rfl rfl rfl (fun b4 w5 eb4 sb4 fb4 cb4 => ?_)
 have zw5 := cb4.size
 refine av rfl rfl (wl_nil (q_n (k1 _ _ ?_)))
 refine sx_seq fun K6 k6 => ?_
 refine sx_seq fun K7 k7 => sx_region ?_
 have f8 := fb2.ext cb4
 refine sp rfl (px_load rfl (f8.loadA (vs := [.bool (ng x1), va1, vd1]) (look_lit rfl) Try.isAgg27 Try.sizeOf27)) ?_
 refine sp rfl (px_load rfl (fb4.loadA (vs := [.bool (ng x2), va2, vd2]) (look_lit rfl) Try.isAgg27 Try.sizeOf27)) ?_
 have f9 := hva10.ext cb2
 have f10 := f9.ext cb4
 have f11 := hvd10.ext cb2
 have f12 := f11.ext cb4
 have f13 := hva20.ext cb2
 have f14 := f13.ext cb4
 have f15 := hvd20.ext cb2
 have f16 := f15.ext cb4
 refine sx_call rfl rfl Try.call44 (c_ratsOk f10 f12 f14 f16 (by omega)) (fun v17 w17 p17 => ?_)
 obtain ⟨rfl, c17⟩ := p17
 have zw17 := c17.size
 refine sp rfl (px_notP rfl) ?_
 refine wl_nil (q_n (k7 _ _ ?_))
 have h98 : ¬ (¬ (ROk (ng x1) (dg x1.natAbs) (dg e1) ∧ ROk (ng x2) (dg x2.natAbs) (dg e2))) := fun h => h ⟨hR1, hR2⟩
 refine sx_condPF rfl h98 ?_
 refine sx_skip ?_
 refine q_n (k6 _ _ ?_)
 refine sx_seq fun K18 k18 => ?_
 have f19 := f8.ext c17
 have f20 := fb4.ext c17
 refine dx_region (fun w' => Chg 0 0 w17 w') (by kernel_rfl) (Chg.zero (Chg.drew _)) ?_
 have d25 := Chg.drew w17
 have s25 : Chg 0 0 w17 (World.drew w17) := Chg.zero (Chg.drew _)
 have y25 : (World.drew w17).heap.size = w17.heap.size := rfl
 generalize World.drew w17 = w25 at *
 have zw25 := d25.size
 refine dt 0 rfl rfl rfl rfl s25 (fun _ hS => px_load rfl ((f19.chg hS (by omega)).loadA (vs := [.bool (ng x1), va1, vd1]) (look_lit rfl) Try.isAgg27 Try.sizeOf27)) ?_
 refine dt 1 rfl rfl rfl rfl s25 (fun _ hS => px_field rfl xfld27x1) ?_
 refine dt 2 rfl rfl rfl rfl s25 (fun _ hS => px_load rfl ((f20.chg hS (by omega)).load1 rfl Try.isAgg23)) ?_
 refine dt 4 rfl rfl rfl rfl s25 (fun _ hS => px_load rfl ((f20.chg hS (by omega)).loadA (vs := [.bool (ng x2), va2, vd2]) (look_lit rfl) Try.isAgg27 Try.sizeOf27)) ?_
 refine dt 5 rfl rfl rfl rfl s25 (fun _ hS => px_field rfl xfld27x1) ?_
 refine dt 6 rfl rfl rfl rfl s25 (fun _ hS => px_load rfl ((f19.chg hS (by omega)).load1 rfl Try.isAgg23)) ?_
 refine dx_eff 3 rfl (by kernel_rfl) ?_
 have f26 := (f10.ext c17).ext d25
 have f27 := (f12.ext c17).ext d25
 have f28 := (f16.ext c17).ext d25
 refine sx_call rfl rfl Try.call45 (c_ratNum f26 f27 f28 (by omega) (by omega)) (fun v29 w29 p29 => ?_)
 obtain ⟨s29, rfl, os_29, c29⟩ := p29
 have zw29 := c29.size
 have s30 : Chg 0 0 w17 w29 := (d25.t c29)
 refine wl_nil ?_
 refine dx_next s30 ?_
 refine dx_eff 7 rfl (by kernel_rfl) ?_
 have f32 := ((f14.ext c17).ext d25).ext c29
 have f33 := f28.ext c29
 have f34 := f27.ext c29
 refine sx_call rfl rfl Try.call45 (c_ratNum f32 f33 f34 (by omega) (by omega)) (fun v35 w35 p35 => ?_)
 obtain ⟨s35, rfl, os_35, c35⟩ := p35
 have zw35 := c35.size
 have s36 : Chg 0 0 w17 w35 := ((d25.t c29).t c35)
 refine wl_nil ?_
 refine dx_next s36 ?_
 refine dx_eff 8 rfl (by kernel_rfl) ?_
 have f37 := os_29.ext c35
 refine sx_call rfl rfl Try.call37 (c_intCmp f37.sv os_35.sv (by rw [a1]; omega) (by rw [a2]; omega)) (fun v38 w38 p38 => ?_)
 obtain ⟨rfl, c38⟩ := p38
 have zw38 := c38.size
 have s39 : Chg 0 0 w17 w38 := (((d25.t c29).t c35).t c38)
 refine wl_nil ?_
 refine dx_next s39 ?_
 refine dt 9 rfl rfl rfl rfl s39 (fun _ hS => px_assign rfl) ?_
 refine dx_done (by kernel_rfl) ?_
 refine q_n (k18 _ _ ?_)
 refine sx_sub (Sub.c 4 rfl .nil) ?_
 refine sx_retc ?_
 refine sx_ret1 Try.results18 rfl ?_
 exact ⟨rfl, ((((((cb2.t cb4).t c17).t d25).t c29).t c35).t c38)⟩

theorem c_iRatSignK {w : World} {va : Value} {lva uva : Nat} {x : Int} {vd : Value} {lvd uvd : Nat} {e : Nat} (hva : Sl w lva uva va (dg x.natAbs)) (hvd : Sl w lvd uvd vd (dg e)) (hR : ROk (ng x) (dg x.natAbs) (dg e)) :
  Ret Try.prog 21 [.agg #[.bool (ng x), va, vd]] w fun v w' => v = .int .i64 ((x).sign) ∧ Chg 0 0 w w' := by
 have hva0 := hva.fit
 have hvd0 := hvd.fit
 have hi := ROk_iff.1 hR
 refine sx_enter Try.func21 rfl Try.ntmps21 (nbl rfl) ?_
 refine sx_seq fun K1 k1 => sx_region ?_
 refine sx_box [.bool (ng x), va, vd] rfl rfl rfl (fun b2 w3 eb2 sb2 fb2 cb2 => ?_)
 have zw3 := cb2.size
 refine av rfl rfl (wl_nil (q_n (k1 _ _ ?_)))
 refine sx_seq fun K4 k4 => ?_
 refine sx_seq fun K5 k5 => sx_region ?_
 refine sp rfl (px_load rfl (fb2.loadA (vs := [.bool (ng x), va, vd]) (look_lit rfl) Try.isAgg27 Try.sizeOf27)) ?_
 have f6 := hva0.ext cb2
 have f7 := hvd0.ext cb2
 refine sx_call rfl rfl Try.call31 (c_iRatOk f6 f7 (by omega)) (fun v8 w8 p8 => ?_)
 obtain ⟨rfl, c8⟩ := p8
 have zw8 := c8.size
 refine sp rfl (px_notP rfl) ?_
 refine wl_nil (q_n (k5 _ _ ?_))
 have h106 : ¬ (¬ (ROk (ng x) (dg x.natAbs) (dg e))) := fun h => h hR
 refine sx_condPF rfl h106 ?_
 refine sx_skip ?_
 refine q_n (k4 _ _ ?_)
 refine sx_seq fun K9 k9 => sx_region ?_
 refine sp rfl (px_field rfl xfld27x0) ?_
 have f10 := fb2.ext c8
 refine sp rfl (px_load rfl (f10.loadA (vs := [.bool (ng x), va]) (look_lit rfl) Try.isAgg25 Try.sizeOf25)) ?_
 have f11 := f6.ext c8
 refine sx_call rfl rfl Try.call52 (c_intSign f11 (by omega)) (fun v12 w12 p12 => ?_)
 obtain ⟨rfl, c12⟩ := p12
 have zw12 := c12.size
 refine av rfl rfl (wl_nil (q_n (k9 _ _ ?_)))
 refine sx_retc ?_
 refine sx_ret1 Try.results21 rfl ?_
 exact ⟨rfl, ((cb2.t c8).t c12)⟩

theorem c_must {w : World} {n : Bool} {va : Value} {lva uva : Nat} {z : List Int} {vd : Value} {lvd uvd : Nat} {y : List Int} (hva : Sl w lva uva va (z)) (hvd : Sl w lvd uvd vd (y)) :
  Ret Try.prog 50 [.agg #[.bool n, va, vd], .bool true] w fun v w' => v = .agg #[.bool (n), va, vd] ∧ Chg 0 0 w w' := by
 have hva0 := hva.fit
 have hvd0 := hvd.fit
 refine sx_enter Try.func50 rfl Try.ntmps50 (nbl rfl) ?_
 refine sx_seq fun K1 k1 => sx_region ?_
 refine sx_box [.bool n, va, vd] rfl rfl rfl (fun b2 w3 eb2 sb2 fb2 cb2 => ?_)
 have zw3 := cb2.size
 refine sx_alloc [.bool false, (.slice none 0 0), (.slice none 0 0)] rfl Try.zeroValue27 rfl (fun b4 w5 eb4 sb4 fb4 cb4 => ?_)
 have zw5 := cb4.size
 refine wl_nil (q_n (k1 _ _ ?_))
 refine sx_seq fun K6 k6 => ?_
 refine sx_seq fun K7 k7 => sx_region ?_
 refine mv rfl rfl (sp rfl (px_not rfl) ?_)
 refine wl_nil (q_n (k7 _ _ ?_))
 refine sx_condF rfl ?_
 refine sx_skip ?_
 refine q_n (k6 _ _ ?_)
 refine sx_seq fun K8 k8 => sx_region ?_
 have f9 := fb2.ext cb4
 refine sp rfl (px_load rfl (f9.loadA (vs := [.bool n, va, vd]) (look_lit rfl) Try.isAgg27 Try.sizeOf27)) ?_
 have f11 := hvd0.ext cb2
 have f12 := f11.ext cb4
 have f13 := hva0.ext cb2
 have f14 := f13.ext cb4
 refine sx_store (vs := [.bool n, va, vd]) rfl rfl fb4 rfl Try.sizeOf27 (nbl rfl) (one_cons rfl (one_cons f14.one (one_cons f12.one one_nil))) (fun w10 sw10 fw10 cw10 => ?_)
 have zw10 := cw10.size
 have gw10 : Blk w10 b4 [.bool n, va, vd] 27 := fw10
 refine wl_nil (q_n (k8 _ _ ?_))
 refine sx_retc ?_
 refine sx_ret1 Try.results50 ⟨_, rfl, gw10.loadA (vs := [.bool n, va, vd]) (look_lit rfl) Try.isAgg27 Try.sizeOf27⟩ ?_
 have q15 := Chg.step (l := 0) (h := 0) (Chg.zero (l := 0) (h := 0) (cb2.t cb4)) cw10 (by omega)
 exact ⟨rfl, q15⟩

theorem c_size {w : World} {va : Value} {lva uva : Nat} {x : Int} {vd : Value} {lvd uvd : Nat} {e : Nat} (hva : Sl w lva uva va (dg x.natAbs)) (hvd : Sl w lvd uvd vd (dg e)) (hR : ROk (ng x) (dg x.natAbs) (dg e)) :
  Ret Try.prog 22 [.agg #[.bool (ng x), va, vd]] w fun v w' => ∃ s t, v = .agg #[.bool (ng ((x).natAbs : Int)), s, t] ∧ Sl w' (0) (w'.heap.size) s (dg (((x).natAbs : Int)).natAbs) ∧ Sl w' (0) (w'.heap.size) t (dg e) ∧ (ROk (ng ((x).natAbs : Int)) (dg (((x).natAbs : Int)).natAbs) (dg e)) ∧ Chg 0 0 w w' := by
 have hva0 := hva.fit
 have hvd0 := hvd.fit
 refine sx_enter Try.func22 rfl Try.ntmps22 (nbl rfl) ?_
 refine sx_seq fun K1 k1 => sx_region ?_
 refine sx_box [.bool (ng x), va, vd] rfl rfl rfl (fun b2 w3 eb2 sb2 fb2 cb2 => ?_)
 have zw3 := cb2.size
 refine sx_alloc [.bool false, (.slice none 0 0), (.slice none 0 0)] rfl Try.zeroValue27 rfl (fun b4 w5 eb4 sb4 fb4 cb4 => ?_)
 have zw5 := cb4.size
 refine wl_nil (q_n (k1 _ _ ?_))
 refine sx_seq fun K6 k6 => ?_
 refine sx_seq fun K7 k7 => sx_region ?_
 have f8 := fb2.ext cb4
 refine sp rfl (px_load rfl (f8.loadA (vs := [.bool (ng x), va, vd]) (look_lit rfl) Try.isAgg27 Try.sizeOf27)) ?_
 have f9 := hva0.ext cb2
 have f10 := f9.ext cb4
 have f11 := hvd0.ext cb2
 have f12 := f11.ext cb4
 refine sx_call rfl rfl Try.call21 (c_iRatSignK f10 f12 (by assumption)) (fun v13 w13 p13 => ?_)
 obtain ⟨rfl, c13⟩ := p13
 have zw13 := c13.size
 refine sp rfl (px_lt rfl rfl) ?_
 refine wl_nil (q_n (k7 _ _ ?_))
 refine sx_condP rfl (fun h22 => ?_) (fun h22 => ?_)
 ·
  refine sx_seq fun K14 k14 => sx_region ?_
  have f15 := f8.ext c13
  refine sp rfl (px_load rfl (f15.loadA (vs := [.bool (ng x), va, vd]) (look_lit rfl) Try.isAgg27 Try.sizeOf27)) ?_
  have f16 := f10.ext c13
  have f17 := f12.ext c13
  refine sx_call rfl rfl Try.call6 (c_iRatNegK f16 f17 (by assumption)) (fun v18 w18 p18 => ?_)
  obtain ⟨s18, t18, ls18, us18, lt18, ut18, rfl, os_18, ot_18, hd18, hK18, c18⟩ := p18
  have zw18 := c18.size
  refine sp rfl (px_ex2 rfl rfl) ?_
  refine sp rfl (px_ex2 rfl rfl) ?_
  refine sx_call rfl rfl Try.call50 (c_must os_18.sv ot_18.sv) (fun v19 w19 p19 => ?_)
  obtain ⟨rfl, c19⟩ := p19
  have zw19 := c19.size
  have f23 := ((fb4.ext c13).ext c18).ext c19
  have f24 := ot_18.ext c19
  have f25 := os_18.ext c19
  refine sx_store (vs := [.bool (ng (-x)), s18, t18]) rfl rfl f23 rfl Try.sizeOf27 (nbl rfl) (one_cons rfl (one_cons f25.one (one_cons f24.one one_nil))) (fun w20 sw20 fw20 cw20 => ?_)
  have zw20 := cw20.size
  have gw20 : Blk w20 b4 [.bool (ng (-x)), s18, t18] 27 := fw20
  refine wl_nil (q_n (k14 _ _ ?_))
  refine sx_retc ?_
  refine q_r (sx_ret1 Try.results22 ⟨_, rfl, gw20.loadA (vs := [.bool (ng (-x)), s18, t18]) (look_lit rfl) Try.isAgg27 Try.sizeOf27⟩ ?_)
  have e1 : -x = ((x.natAbs : Nat) : Int) := by have := Int.sign_neg_iff.1 h22; omega
  rw [← e1]
  have q26 := Chg.step (l := 0) (h := 0) (Chg.zero (l := 0) (h := 0) ((((cb2.t cb4).t c13).t c18).t c19)) cw20 (by omega)
  have f27 := f25.chg cw20 (by omega)
  have f28 := f24.chg cw20 (by omega)
  exact ⟨_, _, rfl, (Sv.mono f27.sv (by omega) (by omega)), (Sv.mono f28.sv (by omega) (by omega)), by rw [e1]; exact ROk_abs hR, q26⟩
 refine sx_skip ?_
 refine q_n (k6 _ _ ?_)
 refine sx_seq fun K29 k29 => sx_region ?_
 have f30 := f8.ext c13
 refine sp rfl (px_load rfl (f30.loadA (vs := [.bool (ng x), va, vd]) (look_lit rfl) Try.isAgg27 Try.sizeOf27)) ?_
 have f32 := fb4.ext c13
 have f33 := f12.ext c13
 have f34 := f10.ext c13
 refine sx_store (vs := [.bool (ng x), va, vd]) rfl rfl f32 rfl Try.sizeOf27 (nbl rfl) (one_cons rfl (one_cons f34.one (one_cons f33.one one_nil))) (fun w31 sw31 fw31 cw31 => ?_)
 have zw31 := cw31.size
 have gw31 : Blk w31 b4 [.bool (ng x), va, vd] 27 := fw31
 refine wl_nil (q_n (k29 _ _ ?_))
 refine sx_retc ?_
 refine sx_ret1 Try.results22 ⟨_, rfl, gw31.loadA (vs := [.bool (ng x), va, vd]) (look_lit rfl) Try.isAgg27 Try.sizeOf27⟩ ?_
 have e1 : x = ((x.natAbs : Nat) : Int) := by by_cases h : x < 0; exact absurd (Int.sign_neg_iff.2 h) h22; omega
 rw [← e1]
 have q35 := Chg.step (l := 0) (h := 0) (Chg.zero (l := 0) (h := 0) ((cb2.t cb4).t c13)) cw31 (by omega)
 have f36 := f34.chg cw31 (by omega)
 have f37 := f33.chg cw31 (by omega)
 exact ⟨_, _, rfl, (Sv.mono f36 (by omega) (by omega)), (Sv.mono f37 (by omega) (by omega)), hR, q35⟩

theorem c_small {w : World} {va : Value} {lva uva : Nat} {x : Int} {vd : Value} {lvd uvd : Nat} {e : Nat} (hva : Sl w lva uva va (dg x.natAbs)) (hvd : Sl w lvd uvd vd (dg e)) (hR : ROk (ng x) (dg x.natAbs) (dg e)) :
  Ret Try.prog 19 [.agg #[.bool (ng x), va, vd]] w fun v w' => v = .bool (decide ((x).natAbs < e)) ∧ Chg 0 0 w w' := by
 have hva0 := hva.fit
 have hvd0 := hvd.fit
 have hi := ROk_iff.1 hR
 refine sx_enter Try.func19 rfl Try.ntmps19 (nbl rfl) ?_
 refine sx_seq fun K1 k1 => sx_region ?_
 refine sx_box [.bool (ng x), va, vd] rfl rfl rfl (fun b2 w3 eb2 sb2 fb2 cb2 => ?_)
 have zw3 := cb2.size
 refine av rfl rfl (wl_nil (q_n (k1 _ _ ?_)))
 refine sx_seq fun K4 k4 => sx_region ?_
 refine sp rfl (px_load rfl (fb2.loadA (vs := [.bool (ng x), va, vd]) (look_lit rfl) Try.isAgg27 Try.sizeOf27)) ?_
 have f5 := hva0.ext cb2
 have f6 := hvd0.ext cb2
 refine sx_call rfl rfl Try.call49 (c_sRatOk f5 f6 (by omega)) (fun v7 w7 p7 => ?_)
 obtain ⟨rfl, c7⟩ := p7
 have zw7 := c7.size
 refine mv rfl rfl ?_
 have h30 : ROk (ng x) (dg x.natAbs) (dg e) := hR
 refine sx_tmpPT (t := 5) rfl h30 ?_
 refine sx_guardT rfl rfl rfl ?_
 have f8 := fb2.ext c7
 refine sp rfl (px_load rfl (f8.loadA (vs := [.bool (ng x), va, vd]) (look_lit rfl) Try.isAgg27 Try.sizeOf27)) ?_
 refine sx_guardT rfl rfl rfl ?_
 have f9 := f5.ext c7
 have f10 := f6.ext c7
 refine sx_call rfl rfl Try.call22 (c_size f9 f10 (by assumption)) (fun v11 w11 p11 => ?_)
 obtain ⟨s11, t11, rfl, os_11, ot_11, hK11, c11⟩ := p11
 have zw11 := c11.size
 refine sx_guardT rfl rfl rfl ?_
 refine sx_call rfl rfl Try.call43 (c_iIntOf (by omega)) (fun v12 w12 p12 => ?_)
 obtain ⟨s12, rfl, os_12, c12⟩ := p12
 have zw12 := c12.size
 refine sx_guardT rfl rfl rfl ?_
 refine sx_call rfl rfl Try.call16 (c_iRatIntK os_12.sv (by have h9 := len_i64 (n := 1) (by omega); omega)) (fun v13 w13 p13 => ?_)
 obtain ⟨s13, t13, ls13, us13, lt13, ut13, rfl, os_13, ot_13, hd13, hK13, c13⟩ := p13
 have zw13 := c13.size
 refine sx_guardT rfl rfl rfl ?_
 refine sp rfl (px_ex2 rfl rfl) ?_
 refine sx_guardT rfl rfl rfl ?_
 refine sp rfl (px_ex2 rfl rfl) ?_
 refine sx_guardT rfl rfl rfl ?_
 refine sx_call rfl rfl Try.call50 (c_must os_13.sv ot_13.sv) (fun v14 w14 p14 => ?_)
 obtain ⟨rfl, c14⟩ := p14
 have zw14 := c14.size
 refine sx_guardT rfl rfl rfl ?_
 have f17 := ((os_11.ext c12).ext c13).ext c14
 have f20 := ((ot_11.ext c12).ext c13).ext c14
 have f21 := os_13.ext c14
 have f22 := ot_13.ext c14
 refine sx_call rfl rfl Try.call18 (c_iRatCmpK f17 f20 f21.sv f22.sv (by assumption) (by assumption)) (fun v23 w23 p23 => ?_)
 obtain ⟨rfl, c23⟩ := p23
 have zw23 := c23.size
 refine sx_guardT rfl rfl rfl ?_
 refine sp rfl (px_lt rfl rfl) ?_
 refine sp rfl (px_pick rfl rfl) ?_
 refine av rfl rfl (wl_nil (q_n (k4 _ _ ?_)))
 refine sx_sub (Sub.c 2 rfl .nil) ?_
 refine sx_retc ?_
 refine sx_ret1 Try.results19 rfl ?_
 exact ⟨(by rw [cmpI_small]), ((((((cb2.t c7).t c11).t c12).t c13).t c14).t c23)⟩

theorem c_isOne {w : World} {va : Value} {lva uva : Nat} {zs : List Int} (hva : Sl w lva uva va (zs)) (h63 : zs.length ≤ 4611686018427387904) :
  Ret Try.prog 51 [va] w fun v w' => v = .bool (decide (zs = [1])) ∧ Chg 0 0 w w' := by
 have hva0 := hva.fit
 refine sx_enter Try.func51 rfl Try.ntmps51 (nbl rfl) ?_
 refine sx_seq fun K1 k1 => sx_region ?_
 refine av rfl rfl (wl_nil (q_n (k1 _ _ ?_)))
 refine sx_seq fun K2 k2 => sx_region ?_
 refine mv rfl rfl (sp rfl (px_len rfl Try.underlying23 hva0) ?_)
 refine sp rfl (px_eq rfl rfl) ?_
 refine mv rfl rfl ?_
 refine sx_tmpP (t := 6) rfl (fun h113 => ?_) (fun h113 => ?_)
 ·
  refine sx_guardT rfl rfl rfl ?_
  refine mv rfl rfl ?_
  refine sx_guardT rfl rfl rfl ?_
  refine sp rfl (px_index1 (j := 0) rfl rfl (by omega) Try.underlying23 Try.sizeOf3 hva0 (by omega)) ?_
  refine sx_guardT rfl rfl rfl ?_
  refine sp rfl (px_load rfl (hva0.load1 (at_int (by omega)) Try.isAgg3)) ?_
  refine sx_guardT rfl rfl rfl ?_
  refine sp rfl (px_eq rfl rfl) ?_
  refine sp rfl (px_pick rfl rfl) ?_
  refine av rfl rfl (wl_nil (q_n (k2 _ _ ?_)))
  refine sx_retc ?_
  refine sx_ret1 Try.results51 rfl ?_
  exact ⟨(by have hk := one_iff (zs := zs); first | exact bFalse (fun h => by have := hk.1 h; omega) | exact bIff ⟨fun h => hk.2 ⟨by omega, h⟩, fun h => (hk.1 h).2⟩), (Chg.refl 0 0 _)⟩
 refine sx_guardF rfl rfl rfl rfl rfl rfl ?_
 refine sx_guardF rfl rfl rfl rfl rfl rfl ?_
 refine sx_guardF rfl rfl rfl rfl rfl rfl ?_
 refine sx_guardF rfl rfl rfl rfl rfl rfl ?_
 refine sp rfl (px_pick rfl rfl) ?_
 refine av rfl rfl (wl_nil (q_n (k2 _ _ ?_)))
 refine sx_retc ?_
 refine sx_ret1 Try.results51 rfl ?_
 exact ⟨(by have hk := one_iff (zs := zs); first | exact bFalse (fun h => by have := hk.1 h; omega) | exact bIff ⟨fun h => hk.2 ⟨by omega, h⟩, fun h => (hk.1 h).2⟩), (Chg.refl 0 0 _)⟩

theorem c_iRatWhole {w : World} {n1 : Bool} {v1 : Value} {lv1 uv1 : Nat} {z1 : List Int} {d1 : Value} {ld1 ud1 : Nat} {y1 : List Int} (hv1 : Sl w lv1 uv1 v1 (z1)) (hd1 : Sl w ld1 ud1 d1 (y1)) (h63 : z1.length ≤ 4611686018427387904 ∧ y1.length ≤ 4611686018427387904) :
  Ret Try.prog 20 [.agg #[.bool n1, v1, d1]] w fun v w' => v = .bool (decide (ROk n1 z1 y1 ∧ y1 = [1])) ∧ Chg 0 0 w w' := by
 have hv10 := hv1.fit
 have hd10 := hd1.fit
 refine sx_enter Try.func20 rfl Try.ntmps20 (nbl rfl) ?_
 refine sx_seq fun K1 k1 => sx_region ?_
 refine sx_box [.bool n1, v1, d1] rfl rfl rfl (fun b2 w3 eb2 sb2 fb2 cb2 => ?_)
 have zw3 := cb2.size
 refine av rfl rfl (wl_nil (q_n (k1 _ _ ?_)))
 refine sx_seq fun K4 k4 => sx_region ?_
 refine sp rfl (px_load rfl (fb2.loadA (vs := [.bool n1, v1, d1]) (look_lit rfl) Try.isAgg27 Try.sizeOf27)) ?_
 have f5 := hv10.ext cb2
 have f6 := hd10.ext cb2
 refine sx_call rfl rfl Try.call31 (c_iRatOk f5 f6 (by omega)) (fun v7 w7 p7 => ?_)
 obtain ⟨rfl, c7⟩ := p7
 have zw7 := c7.size
 refine mv rfl rfl ?_
 refine sx_tmpP (t := 5) rfl (fun h67 => ?_) (fun h67 => ?_)
 ·
  refine sx_guardT rfl rfl rfl ?_
  refine sp rfl (px_field rfl xfld27x1) ?_
  refine sx_guardT rfl rfl rfl ?_
  have f8 := fb2.ext c7
  refine sp rfl (px_load rfl (f8.load1 rfl Try.isAgg23)) ?_
  refine sx_guardT rfl rfl rfl ?_
  have f9 := f6.ext c7
  refine sx_call rfl rfl Try.call51 (c_isOne f9 (by omega)) (fun v10 w10 p10 => ?_)
  obtain ⟨rfl, c10⟩ := p10
  have zw10 := c10.size
  refine sp rfl (px_pick rfl rfl) ?_
  refine av rfl rfl (wl_nil (q_n (k4 _ _ ?_)))
  refine sx_retc ?_
  refine sx_ret1 Try.results20 rfl ?_
  exact ⟨(by first | exact bTrue (by grind) | exact bFalse (by grind) | exact bIff (by grind)), ((cb2.t c7).t c10)⟩
 refine sx_guardF rfl rfl rfl rfl rfl rfl ?_
 refine sx_guardF rfl rfl rfl rfl rfl rfl ?_
 refine sx_guardF rfl rfl rfl rfl rfl rfl ?_
 refine sp rfl (px_pick rfl rfl) ?_
 refine av rfl rfl (wl_nil (q_n (k4 _ _ ?_)))
 refine sx_retc ?_
 refine sx_ret1 Try.results20 rfl ?_
 exact ⟨(by first | exact bTrue (by grind) | exact bFalse (by grind) | exact bIff (by grind)), (cb2.t c7)⟩

theorem c_half {w : World} :
  Ret Try.prog 23 [] w fun v w' => ∃ s t ls us lt ut, v = .agg #[.bool (ng (1 : Int)), s, t] ∧ OwnI w' (ls) (us) s intT (dg (1 : Int).natAbs) ∧ OwnI w' (lt) (ut) t intT (dg 2) ∧ (w.heap.size ≤ ls ∧ us ≤ w'.heap.size ∧ w.heap.size ≤ lt ∧ ut ≤ w'.heap.size ∧ (us ≤ lt ∨ ut ≤ ls)) ∧ (ROk (ng 1) (dg (1 : Int).natAbs) (dg 2)) ∧ Chg 0 0 w w' := by
 refine sx_enter Try.func23 rfl Try.ntmps23 (nbl rfl) ?_
 refine sx_seq fun K1 k1 => sx_region ?_
 refine sx_alloc [.bool false, (.slice none 0 0), (.slice none 0 0)] rfl Try.zeroValue27 rfl (fun b2 w3 eb2 sb2 fb2 cb2 => ?_)
 have zw3 := cb2.size
 refine wl_nil (q_n (k1 _ _ ?_))
 refine sx_seq fun K4 k4 => sx_region ?_
 refine sx_call rfl rfl Try.call43 (c_iIntOf (by omega)) (fun v5 w5 p5 => ?_)
 obtain ⟨s5, rfl, os_5, c5⟩ := p5
 have zw5 := c5.size
 refine sx_call rfl rfl Try.call43 (c_iIntOf (by omega)) (fun v6 w6 p6 => ?_)
 obtain ⟨s6, rfl, os_6, c6⟩ := p6
 have zw6 := c6.size
 have f7 := os_5.ext c6
 refine sx_call rfl rfl Try.call42 (c_iRatMakeH f7.sv os_6.sv (⟨rfl, rfl⟩)) (fun v8 w8 p8 => ?_)
 obtain ⟨s8, t8, ls8, us8, lt8, ut8, rfl, os_8, ot_8, hd8, c8⟩ := p8
 have zw8 := c8.size
 refine sp rfl (px_ex2 rfl rfl) ?_
 refine sp rfl (px_ex2 rfl rfl) ?_
 refine sx_call rfl rfl Try.call50 (c_must os_8.sv ot_8.sv) (fun v9 w9 p9 => ?_)
 obtain ⟨rfl, c9⟩ := p9
 have zw9 := c9.size
 have f14 := (((fb2.ext c5).ext c6).ext c8).ext c9
 have f15 := ot_8.ext c9
 have f16 := os_8.ext c9
 refine sx_store (vs := [.bool (ng (1 : Int)), s8, t8]) rfl rfl f14 rfl Try.sizeOf27 (nbl rfl) (one_cons rfl (one_cons f16.one (one_cons f15.one one_nil))) (fun w10 sw10 fw10 cw10 => ?_)
 have zw10 := cw10.size
 have gw10 : Blk w10 b2 [.bool (ng (1 : Int)), s8, t8] 27 := fw10
 refine wl_nil (q_n (k4 _ _ ?_))
 refine sx_retc ?_
 refine sx_ret1 Try.results23 ⟨_, rfl, gw10.loadA (vs := [.bool (ng (1 : Int)), s8, t8]) (look_lit rfl) Try.isAgg27 Try.sizeOf27⟩ ?_
 have q17 := Chg.step (l := 0) (h := 0) (Chg.zero (l := 0) (h := 0) ((((cb2.t c5).t c6).t c8).t c9)) cw10 (by omega)
 have f18 := f16.chg cw10 (by omega)
 have f19 := f15.chg cw10 (by omega)
 exact ⟨_, _, _, _, _, _, rfl, f18, f19, by omega, ROk_half, q17⟩

end Go.Proofs.Ytgmoahoocakpmaa
