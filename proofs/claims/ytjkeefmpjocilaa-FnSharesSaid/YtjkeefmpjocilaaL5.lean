/- Contracts of functions of the program: what each call returns, and that it changes nothing that was. Conditions: as each says. -/
import Derived.Test.YtjkeefmpjocilaaTy
import Derived.Test.YtjkeefmpjocilaaNatI
import Derived.Test.YtjkeefmpjocilaaSxW
import Derived.Test.YtjkeefmpjocilaaSxQ
import Derived.Test.YtjkeefmpjocilaaSxR
import Derived.Test.YtjkeefmpjocilaaSxP
import Derived.Test.YtjkeefmpjocilaaRm
import Derived.Test.YtjkeefmpjocilaaL4
import Derived.Test.YtjkeefmpjocilaaNatSk
set_option linter.unusedVariables false
set_option linter.unusedSimpArgs false
namespace Go.Proofs.Ytjkeefmpjocilaa
open Go Go.RowKit
set_option maxRecDepth 100000
theorem c_sizeL {w : World} {va : Value} {lva uva : Nat} {x : Int} {vd : Value} {lvd uvd : Nat} {e : Nat} (hva : Sl w lva uva va (dg x.natAbs)) (hvd : Sl w lvd uvd vd (dg e)) (hR : ROk (ng x) (dg x.natAbs) (dg e)) :
  Ret Try.prog 53 [.agg #[.bool (ng x), va, vd]] w fun v w' => ∃ s t, v = .agg #[.bool (ng ((x).natAbs : Int)), s, t] ∧ Sl w' (min lva w.heap.size) (w'.heap.size) s (dg (((x).natAbs : Int)).natAbs) ∧ Sl w' (min lvd w.heap.size) (w'.heap.size) t (dg e) ∧ (ROk (ng ((x).natAbs : Int)) (dg (((x).natAbs : Int)).natAbs) (dg e)) ∧ Chg 0 0 w w' := by
 have hva0 := hva.fit
 have hvd0 := hvd.fit
 refine sx_enter Try.func53 rfl Try.ntmps53 (nbl rfl) ?_
 refine sx_seq fun K1 k1 => sx_region ?_
 refine sx_box [.bool (ng x), va, vd] rfl rfl rfl (fun b2 w3 eb2 sb2 fb2 cb2 => ?_)
 have zw3 := cb2.size
 refine sx_alloc [.bool false, (.slice none 0 0), (.slice none 0 0)] rfl Try.zeroValue35 rfl (fun b4 w5 eb4 sb4 fb4 cb4 => ?_)
 have zw5 := cb4.size
 refine wl_nil (q_n (k1 _ _ ?_))
 refine sx_seq fun K6 k6 => ?_
 refine sx_seq fun K7 k7 => sx_region ?_
 have f8 := fb2.ext cb4
 refine sp rfl (px_load rfl (f8.loadA (vs := [.bool (ng x), va, vd]) (look_lit rfl) Try.isAgg35 Try.sizeOf35)) ?_
 have f9 := hva0.ext cb2
 have f10 := f9.ext cb4
 have f11 := hvd0.ext cb2
 have f12 := f11.ext cb4
 refine sx_call rfl rfl Try.call78 (c_iRatSignK f10 f12 (by assumption)) (fun v13 w13 p13 => ?_)
 obtain ⟨rfl, c13⟩ := p13
 have zw13 := c13.size
 refine sp rfl (px_lt rfl rfl) ?_
 refine wl_nil (q_n (k7 _ _ ?_))
 refine sx_condP rfl (fun h22 => ?_) (fun h22 => ?_)
 ·
  refine sx_seq fun K14 k14 => sx_region ?_
  have f15 := f8.ext c13
  refine sp rfl (px_load rfl (f15.loadA (vs := [.bool (ng x), va, vd]) (look_lit rfl) Try.isAgg35 Try.sizeOf35)) ?_
  have f16 := f10.ext c13
  have f17 := f12.ext c13
  refine sx_call rfl rfl Try.call80 (c_iRatNegK f16 f17 (by assumption)) (fun v18 w18 p18 => ?_)
  obtain ⟨s18, t18, ls18, us18, lt18, ut18, rfl, os_18, ot_18, hd18, hK18, c18⟩ := p18
  have zw18 := c18.size
  refine sp rfl (px_ex2 rfl rfl) ?_
  refine sp rfl (px_ex2 rfl rfl) ?_
  refine sx_call rfl rfl Try.call79 (c_must os_18.sv ot_18.sv) (fun v19 w19 p19 => ?_)
  obtain ⟨rfl, c19⟩ := p19
  have zw19 := c19.size
  have f23 := ((fb4.ext c13).ext c18).ext c19
  have f24 := ot_18.ext c19
  have f25 := os_18.ext c19
  refine sx_store (vs := [.bool (ng (-x)), s18, t18]) rfl rfl f23 rfl Try.sizeOf35 (nbl rfl) (one_cons rfl (one_cons f25.one (one_cons f24.one one_nil))) (fun w20 sw20 fw20 cw20 => ?_)
  have zw20 := cw20.size
  have gw20 : Blk w20 b4 [.bool (ng (-x)), s18, t18] 35 := fw20
  refine wl_nil (q_n (k14 _ _ ?_))
  refine sx_retc ?_
  refine q_r (sx_ret1 Try.results53 ⟨_, rfl, gw20.loadA (vs := [.bool (ng (-x)), s18, t18]) (look_lit rfl) Try.isAgg35 Try.sizeOf35⟩ ?_)
  have e1 : -x = ((x.natAbs : Nat) : Int) := by have := Int.sign_neg_iff.1 h22; omega
  rw [← e1]
  have q26 := Chg.step (l := 0) (h := 0) (Chg.zero (l := 0) (h := 0) ((((cb2.t cb4).t c13).t c18).t c19)) cw20 (by omega)
  have f27 := f25.chg cw20 (by omega)
  have f28 := f24.chg cw20 (by omega)
  exact ⟨_, _, rfl, (Sv.mono f27.sv (by omega) (by omega)), (Sv.mono f28.sv (by omega) (by omega)), by rw [e1]; exact ROk_abs hR, q26⟩
 refine sx_skip ?_
 refine q_n (k6 _ _ ?_)
 refine sx_seq fun K29 k29 => sx_region ?_
 have f30 := f8.ext c13
 refine sp rfl (px_load rfl (f30.loadA (vs := [.bool (ng x), va, vd]) (look_lit rfl) Try.isAgg35 Try.sizeOf35)) ?_
 have f32 := fb4.ext c13
 have f33 := f12.ext c13
 have f34 := f10.ext c13
 refine sx_store (vs := [.bool (ng x), va, vd]) rfl rfl f32 rfl Try.sizeOf35 (nbl rfl) (one_cons rfl (one_cons f34.one (one_cons f33.one one_nil))) (fun w31 sw31 fw31 cw31 => ?_)
 have zw31 := cw31.size
 have gw31 : Blk w31 b4 [.bool (ng x), va, vd] 35 := fw31
 refine wl_nil (q_n (k29 _ _ ?_))
 refine sx_retc ?_
 refine sx_ret1 Try.results53 ⟨_, rfl, gw31.loadA (vs := [.bool (ng x), va, vd]) (look_lit rfl) Try.isAgg35 Try.sizeOf35⟩ ?_
 have e1 : x = ((x.natAbs : Nat) : Int) := by by_cases h : x < 0; exact absurd (Int.sign_neg_iff.2 h) h22; omega
 rw [← e1]
 have q35 := Chg.step (l := 0) (h := 0) (Chg.zero (l := 0) (h := 0) ((cb2.t cb4).t c13)) cw31 (by omega)
 have f36 := f34.chg cw31 (by omega)
 have f37 := f33.chg cw31 (by omega)
 exact ⟨_, _, rfl, (Sv.mono f36 (by omega) (by omega)), (Sv.mono f37 (by omega) (by omega)), hR, q35⟩

theorem c_lack {w : World} {va : Value} {lva uva : Nat} {x : Int} {vd : Value} {lvd uvd : Nat} {e : Nat} (hva : Sl w lva uva va (dg x.natAbs)) (hvd : Sl w lvd uvd vd (dg e)) (hR : ROk (ng x) (dg x.natAbs) (dg e)) (hx : (dg x.natAbs).length ≤ 5) :
  Ret Try.prog 15 [.agg #[.bool (ng x), va, vd]] w fun v w' => ∃ s t, v = .agg #[.bool (ng ((lkN x e : Nat) : Int)), s, t] ∧ Sl w' (0) (w'.heap.size) s (dg (((lkN x e : Nat) : Int)).natAbs) ∧ Sl w' (0) (w'.heap.size) t (dg e) ∧ (ROk (ng ((lkN x e : Nat) : Int)) (dg (((lkN x e : Nat) : Int)).natAbs) (dg e)) ∧ Chg 0 0 w w' := by
 have hva0 := hva.fit
 have hvd0 := hvd.fit
 refine sx_enter Try.func15 rfl Try.ntmps15 (nbl rfl) ?_
 refine sx_seq fun K1 k1 => sx_region ?_
 refine sx_box [.bool (ng x), va, vd] rfl rfl rfl (fun b2 w3 eb2 sb2 fb2 cb2 => ?_)
 have zw3 := cb2.size
 refine sx_alloc [.bool false, (.slice none 0 0), (.slice none 0 0)] rfl Try.zeroValue35 rfl (fun b4 w5 eb4 sb4 fb4 cb4 => ?_)
 have zw5 := cb4.size
 refine wl_nil (q_n (k1 _ _ ?_))
 refine sx_seq fun K6 k6 => sx_region ?_
 have f7 := fb2.ext cb4
 refine sp rfl (px_load rfl (f7.loadA (vs := [.bool (ng x), va, vd]) (look_lit rfl) Try.isAgg35 Try.sizeOf35)) ?_
 have f8 := hva0.ext cb2
 have f9 := f8.ext cb4
 have f10 := hvd0.ext cb2
 have f11 := f10.ext cb4
 refine sx_call rfl rfl Try.call52 (c_iRatRestK f9 f11 (by assumption) (by omega) (by omega)) (fun v12 w12 p12 => ?_)
 obtain ⟨s12, t12, u12, ls12, us12, lt12, ut12, lu12, uu12, rfl, os_12, ot_12, ou_12, hd12, hl12, hK12, c12⟩ := p12
 have zw12 := c12.size
 refine mv rfl rfl (sp rfl (px_ex3 rfl rfl) ?_)
 refine sp rfl (px_ex3 rfl rfl) ?_
 refine sp rfl (px_ex3 rfl rfl) ?_
 refine sx_alloc [.bool false, (.slice none 0 0)] rfl Try.zeroValue25 rfl (fun b13 w14 eb13 sb13 fb13 cb13 => ?_)
 have zw14 := cb13.size
 refine sx_alloc [.bool false, (.slice none 0 0), (.slice none 0 0)] rfl Try.zeroValue35 rfl (fun b15 w16 eb15 sb15 fb15 cb15 => ?_)
 have zw16 := cb15.size
 have f18 := fb13.ext cb15
 have f19 := os_12.ext cb13
 have f20 := f19.ext cb15
 refine sx_store (vs := [.bool (ng (rqI x e (0 : Int))), s12]) rfl rfl f18 rfl Try.sizeOf25 (nbl rfl) (one_cons rfl (one_cons f20.one one_nil)) (fun w17 sw17 fw17 cw17 => ?_)
 have zw17 := cw17.size
 have gw17 : Blk w17 b13 [.bool (ng (rqI x e (0 : Int))), s12] 25 := fw17
 have f22 := fb15.chg cw17 (by omega)
 have f23 := ou_12.ext cb13
 have f24 := f23.ext cb15
 have f25 := f24.chg cw17 (by omega)
 have f26 := ot_12.ext cb13
 have f27 := f26.ext cb15
 have f28 := f27.chg cw17 (by omega)
 refine sx_store (vs := [.bool (ng (x + -rqI x e (0 : Int) * ((e : Nat) : Int))), t12, u12]) rfl rfl f22 rfl Try.sizeOf35 (nbl rfl) (one_cons rfl (one_cons f28.one (one_cons f25.one one_nil))) (fun w21 sw21 fw21 cw21 => ?_)
 have zw21 := cw21.size
 have gw21 : Blk w21 b15 [.bool (ng (x + -rqI x e (0 : Int) * ((e : Nat) : Int))), t12, u12] 35 := fw21
 refine av rfl rfl (wl_nil (q_n (k6 _ _ ?_)))
 refine sx_seq fun K29 k29 => sx_region ?_
 refine sp rfl (px_load rfl (gw21.loadA (vs := [.bool (ng (x + -rqI x e (0 : Int) * ((e : Nat) : Int))), t12, u12]) (look_lit rfl) Try.isAgg35 Try.sizeOf35)) ?_
 have f30 := f28.chg cw21 (by omega)
 have f31 := f25.chg cw21 (by omega)
 refine sx_call rfl rfl Try.call53 (c_sizeL f30.sv f31.sv (by assumption)) (fun v32 w32 p32 => ?_)
 obtain ⟨s32, t32, rfl, os_32, ot_32, hK32, c32⟩ := p32
 have zw32 := c32.size
 have f35 := (fb4.ext c12).ext cb13
 have f36 := f35.ext cb15
 have f37 := f36.chg cw17 (by omega)
 have f38 := f37.chg cw21 (by omega)
 have f39 := f38.ext c32
 refine sx_store (vs := [.bool (ng (((x + -rqI x e (0 : Int) * ((e : Nat) : Int))).natAbs : Int)), s32, t32]) rfl rfl f39 rfl Try.sizeOf35 (nbl rfl) (one_cons rfl (one_cons os_32.one (one_cons ot_32.one one_nil))) (fun w33 sw33 fw33 cw33 => ?_)
 have zw33 := cw33.size
 have gw33 : Blk w33 b4 [.bool (ng (((x + -rqI x e (0 : Int) * ((e : Nat) : Int))).natAbs : Int)), s32, t32] 35 := fw33
 refine wl_nil (q_n (k29 _ _ ?_))
 refine sx_retc ?_
 refine sx_ret1 Try.results15 ⟨_, rfl, gw33.loadA (vs := [.bool (ng (((x + -rqI x e (0 : Int) * ((e : Nat) : Int))).natAbs : Int)), s32, t32]) (look_lit rfl) Try.isAgg35 Try.sizeOf35⟩ ?_
 have q40 := Chg.step (l := 0) (h := 0) (Chg.zero (l := 0) (h := 0) ((((cb2.t cb4).t c12).t cb13).t cb15)) cw17 (by omega)
 have q41 := Chg.step (l := 0) (h := 0) q40 cw21 (by omega)
 have q42 := Chg.step (l := 0) (h := 0) q41 c32 (by omega)
 have q43 := Chg.step (l := 0) (h := 0) q42 cw33 (by omega)
 have f44 := os_32.chg cw33 (by omega)
 have f45 := ot_32.chg cw33 (by omega)
 exact ⟨_, _, rfl, (Sv.mono f44 (by omega) (by omega)), (Sv.mono f45 (by omega) (by omega)), by assumption, q43⟩

end Go.Proofs.Ytjkeefmpjocilaa
