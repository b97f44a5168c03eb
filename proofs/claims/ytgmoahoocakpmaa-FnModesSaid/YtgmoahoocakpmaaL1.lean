/- Contracts of functions of the program: what each call returns, and that it changes nothing that was. Conditions: as each says. -/
import Derived.Test.YtgmoahoocakpmaaTy
import Derived.Test.YtgmoahoocakpmaaNatK
import Derived.Test.YtgmoahoocakpmaaSxW
import Derived.Test.YtgmoahoocakpmaaNatS
import Derived.Test.YtgmoahoocakpmaaSxP
import Derived.Test.YtgmoahoocakpmaaRm
import Derived.Test.YtgmoahoocakpmaaL0
set_option linter.unusedVariables false
set_option linter.unusedSimpArgs false
namespace Go.Proofs.Ytgmoahoocakpmaa
open Go Go.RowKit
set_option maxRecDepth 100000
theorem c_divStep {w : World} {va : Value} {lva uva : Nat} {preva sufva : List Value} {zs : List Int} {vb : Value} {lvb uvb : Nat} {ys : List Int} (hva : Win w lva uva va intT preva sufva zs) (hvb : Sl w lvb uvb vb (ys)) (hd : uvb ≤ lva ∨ uva ≤ lvb) (hzl : zs.length = ys.length + 1) (h2 : 2 ≤ ys.length) (hz : Lm zs) (hy : Lm ys) (hv1 : 0 < ys.getD (ys.length - 1) 0) (hU : vl zs < 1000000000 * vl ys) (h63 : zs.length ≤ 1000) :
  Ret Try.prog 88 [va, vb] w fun v w' => ∃ os, v = .int .i64 (((vl zs / vl ys : Nat) : Int)) ∧ Win w' lva uva va intT preva sufva (os) ∧ (Lm os ∧ (os).length = (zs).length ∧ vl os = vl zs % vl ys) ∧ Chg lva uva w w' := by
 have a0 := hz.getD ys.length
 have a1 := hz.getD (ys.length - 1)
 have a2 := hz.getD (ys.length - 2)
 have b1 := hy.getD (ys.length - 1)
 have b2 := hy.getD (ys.length - 2)
 have hV : 0 < vl ys := by omega
 refine sx_enter Try.func88 rfl Try.ntmps88 (nbl rfl) ?_
 refine sx_seq fun K1 k1 => sx_region ?_
 refine av rfl rfl (wl_nil (q_n (k1 _ _ ?_)))
 refine sx_seq fun K2 k2 => sx_region ?_
 refine mv rfl rfl (sp rfl (px_len rfl Try.underlying23 hvb) ?_)
 refine av rfl rfl (wl_nil (q_n (k2 _ _ ?_)))
 refine sx_seq fun K3 k3 => ?_
 refine dx_region (fun w' => Chg 0 0 w w') (by kernel_rfl) (Chg.zero (Chg.drew _)) ?_
 have d4 := Chg.drew w
 have s4 : Chg 0 0 w (World.drew w) := Chg.zero (Chg.drew _)
 have y4 : (World.drew w).heap.size = w.heap.size := rfl
 generalize World.drew w = w4 at *
 have zw4 := d4.size
 refine dt 0 rfl rfl rfl rfl s4 (fun _ hS => px_move rfl) ?_
 refine dt 1 rfl rfl rfl rfl s4 (fun _ hS => px_move rfl) ?_
 refine dt 2 rfl rfl rfl rfl s4 (fun _ hS => px_index1 (j := (ys).length) rfl rfl (by omega) Try.underlying23 Try.sizeOf3 ((hva.sv).chg hS (by omega)) (by omega)) ?_
 refine dt 3 rfl rfl rfl rfl s4 (fun _ hS => px_load rfl (((hva.sv).chg hS (by omega)).load1 (at_int (by omega)) Try.isAgg3)) ?_
 refine dt 4 rfl rfl rfl rfl s4 (fun _ hS => px_mul rfl rfl (by omega)) ?_
 refine dt 5 rfl rfl rfl rfl s4 (fun _ hS => px_move rfl) ?_
 refine dt 6 rfl rfl rfl rfl s4 (fun _ hS => px_move rfl) ?_
 refine dt 7 rfl rfl rfl rfl s4 (fun _ hS => px_sub rfl rfl (by omega)) ?_
 refine dt 8 rfl rfl rfl rfl s4 (fun _ hS => px_index1 (j := ((ys).length - 1)) rfl rfl (by omega) Try.underlying23 Try.sizeOf3 ((hva.sv).chg hS (by omega)) (by omega)) ?_
 refine dt 9 rfl rfl rfl rfl s4 (fun _ hS => px_load rfl (((hva.sv).chg hS (by omega)).load1 (at_int (by omega)) Try.isAgg3)) ?_
 refine dt 10 rfl rfl rfl rfl s4 (fun _ hS => px_add rfl rfl (by omega)) ?_
 refine dt 11 rfl rfl rfl rfl s4 (fun _ hS => px_assign rfl) ?_
 refine dx_done (by kernel_rfl) ?_
 refine q_n (k3 _ _ ?_)
 refine sx_sub (Sub.c 0 rfl (.c 1 rfl (.c 4 rfl (.c 5 rfl (.c 6 rfl .nil))))) ?_
 refine sx_seq fun K5 k5 => sx_region ?_
 refine mv rfl rfl (mv rfl rfl (mv rfl rfl (sp rfl (px_sub rfl rfl (by omega)) ?_)))
 have f6 := hvb.ext d4
 refine sp rfl (px_index1 (j := ((ys).length - 1)) rfl rfl (by omega) Try.underlying23 Try.sizeOf3 f6 (by omega)) ?_
 refine sp rfl (px_load rfl (f6.load1 (at_int (by omega)) Try.isAgg3)) ?_
 refine sp rfl (px_quo rfl rfl (by omega) (by omega) (by omega)) ?_
 refine sp rfl (px_min rfl rfl) ?_
 refine av rfl rfl (wl_nil (q_n (k5 _ _ ?_)))
 refine sx_seq fun K7 k7 => ?_
 refine sx_block ?_
 refine sx_loop (fun mm aa w' => ∃ (q : Int), Agr 81 [(0, va), (1, vb), (5, .int .i64 ↑ys.length), (6, .int .i64 ((((zs).getD ((ys).length) 0) * 1000000000) + ((zs).getD ((ys).length - 1) 0))), (7, .int .i64 q)] aa ∧ Chg 0 0 w4 w' ∧ (mm = q.toNat) ∧ (Guess zs ys ys.length ((((zs).getD ((ys).length) 0) * 1000000000) + ((zs).getD ((ys).length - 1) 0)) q)) (_) (fun a ha => ⟨(min (((((zs).getD ((ys).length) 0) * 1000000000) + ((zs).getD ((ys).length - 1) 0)) / ((ys).getD ((ys).length - 1) 0)) 999999999), ha.sub (Sub.c 0 rfl (.c 1 rfl (.c 5 (look_int (t := 5) rfl (by first | omega | simp)) (.c 6 rfl (.c 7 (look_int (t := 7) rfl (by first | omega | simp)) .nil))))), Chg.refl _ _ _, rfl, guess_init h2 hzl rfl hz hy hv1 hU rfl⟩) ?_
 rintro mm aa wl8 ⟨q, hAwl8, cwl8, hm, hg⟩
 refine (show cw Try.prog 81 _ _ _ wl8 from ?_) aa hAwl8
 clear hAwl8
 have zwl8 := cwl8.size
 have hq0 := hg.q0
 have hq1 := hg.q1
 have hqv := hg.qv
 have m1 := mul_limb hq0 (by omega) b1.1 b1.2
 have m2 := mul_limb hq0 (by omega) b2.1 b2.2
 refine sx_seq fun K9 k9 => ?_
 refine sx_seq fun K10 k10 => ?_
 by_cases ph44 : 0 < q
 ·
  by_cases ph44x1 : zs.getD ys.length 0 * 1000000000 + zs.getD (ys.length - 1) 0 - q * ys.getD (ys.length - 1) 0 < 1000000000
  ·
   have f12 := (hva.ext d4).ext cwl8
   have f13 := f6.ext cwl8
   refine dx_region (fun w' => Chg 0 0 wl8 w') (by kernel_rfl) (Chg.zero (Chg.drew _)) ?_
   have d14 := Chg.drew wl8
   have s14 : Chg 0 0 wl8 (World.drew wl8) := Chg.zero (Chg.drew _)
   have y14 : (World.drew wl8).heap.size = wl8.heap.size := rfl
   generalize World.drew wl8 = w14 at *
   have zw14 := d14.size
   refine dt 0 rfl rfl rfl rfl s14 (fun _ hS => px_move rfl) ?_
   refine dt 1 rfl rfl rfl rfl s14 (fun _ hS => px_gt rfl rfl) ?_
   refine dt 2 rfl rfl rfl rfl s14 (fun _ hS => px_move rfl) ?_
   have h44 : (0 : Int) < q := by omega
   refine dx_tmpPT (t := 31) rfl h44 ?_
   refine dx_takeG 3 rfl rfl rfl rfl rfl rfl (by kernel_rfl) (by kernel_rfl) (by kernel_rfl) s14 (fun _ hS => px_move rfl) ?_
   refine dx_takeG 4 rfl rfl rfl rfl rfl rfl (by kernel_rfl) (by kernel_rfl) (by kernel_rfl) s14 (fun _ hS => px_move rfl) ?_
   refine dx_takeG 5 rfl rfl rfl rfl rfl rfl (by kernel_rfl) (by kernel_rfl) (by kernel_rfl) s14 (fun _ hS => px_move rfl) ?_
   refine dx_takeG 6 rfl rfl rfl rfl rfl rfl (by kernel_rfl) (by kernel_rfl) (by kernel_rfl) s14 (fun _ hS => px_move rfl) ?_
   refine dx_takeG 7 rfl rfl rfl rfl rfl rfl (by kernel_rfl) (by kernel_rfl) (by kernel_rfl) s14 (fun _ hS => px_sub rfl rfl (by omega)) ?_
   refine dx_takeG 8 rfl rfl rfl rfl rfl rfl (by kernel_rfl) (by kernel_rfl) (by kernel_rfl) s14 (fun _ hS => px_index1 (j := (ys.length - 1)) rfl rfl (by omega) Try.underlying23 Try.sizeOf3 ((f13).chg hS (by omega)) (by omega)) ?_
   refine dx_takeG 9 rfl rfl rfl rfl rfl rfl (by kernel_rfl) (by kernel_rfl) (by kernel_rfl) s14 (fun _ hS => px_load rfl (((f13).chg hS (by omega)).load1 (at_int (by omega)) Try.isAgg3)) ?_
   refine dx_takeG 10 rfl rfl rfl rfl rfl rfl (by kernel_rfl) (by kernel_rfl) (by kernel_rfl) s14 (fun _ hS => px_mul rfl rfl (by omega)) ?_
   refine dx_takeG 11 rfl rfl rfl rfl rfl rfl (by kernel_rfl) (by kernel_rfl) (by kernel_rfl) s14 (fun _ hS => px_sub rfl rfl (by omega)) ?_
   refine dx_takeG 12 rfl rfl rfl rfl rfl rfl (by kernel_rfl) (by kernel_rfl) (by kernel_rfl) s14 (fun _ hS => px_lt rfl rfl) ?_
   refine dt 13 rfl rfl rfl rfl s14 (fun _ hS => px_pick rfl rfl) ?_
   refine dt 14 rfl rfl rfl rfl s14 (fun _ hS => px_move rfl) ?_
   have h44x1 : (((((zs).getD ((ys).length) 0) * 1000000000) + ((zs).getD ((ys).length - 1) 0)) - (q * ((ys).getD (ys.length - 1) 0)) : Int) < 1000000000 := by omega
   refine dx_tmpPT (t := 43) rfl h44x1 ?_
   refine dx_takeG 15 rfl rfl rfl rfl rfl rfl (by kernel_rfl) (by kernel_rfl) (by kernel_rfl) s14 (fun _ hS => px_move rfl) ?_
   refine dx_takeG 16 rfl rfl rfl rfl rfl rfl (by kernel_rfl) (by kernel_rfl) (by kernel_rfl) s14 (fun _ hS => px_move rfl) ?_
   refine dx_takeG 17 rfl rfl rfl rfl rfl rfl (by kernel_rfl) (by kernel_rfl) (by kernel_rfl) s14 (fun _ hS => px_move rfl) ?_
   refine dx_takeG 18 rfl rfl rfl rfl rfl rfl (by kernel_rfl) (by kernel_rfl) (by kernel_rfl) s14 (fun _ hS => px_sub rfl rfl (by omega)) ?_
   refine dx_takeG 19 rfl rfl rfl rfl rfl rfl (by kernel_rfl) (by kernel_rfl) (by kernel_rfl) s14 (fun _ hS => px_index1 (j := (ys.length - 2)) rfl rfl (by omega) Try.underlying23 Try.sizeOf3 ((f13).chg hS (by omega)) (by omega)) ?_
   refine dx_takeG 20 rfl rfl rfl rfl rfl rfl (by kernel_rfl) (by kernel_rfl) (by kernel_rfl) s14 (fun _ hS => px_load rfl (((f13).chg hS (by omega)).load1 (at_int (by omega)) Try.isAgg3)) ?_
   refine dx_takeG 21 rfl rfl rfl rfl rfl rfl (by kernel_rfl) (by kernel_rfl) (by kernel_rfl) s14 (fun _ hS => px_mul rfl rfl (by omega)) ?_
   refine dx_takeG 22 rfl rfl rfl rfl rfl rfl (by kernel_rfl) (by kernel_rfl) (by kernel_rfl) s14 (fun _ hS => px_move rfl) ?_
   refine dx_takeG 23 rfl rfl rfl rfl rfl rfl (by kernel_rfl) (by kernel_rfl) (by kernel_rfl) s14 (fun _ hS => px_move rfl) ?_
   refine dx_takeG 24 rfl rfl rfl rfl rfl rfl (by kernel_rfl) (by kernel_rfl) (by kernel_rfl) s14 (fun _ hS => px_move rfl) ?_
   refine dx_takeG 25 rfl rfl rfl rfl rfl rfl (by kernel_rfl) (by kernel_rfl) (by kernel_rfl) s14 (fun _ hS => px_move rfl) ?_
   refine dx_takeG 26 rfl rfl rfl rfl rfl rfl (by kernel_rfl) (by kernel_rfl) (by kernel_rfl) s14 (fun _ hS => px_sub rfl rfl (by omega)) ?_
   refine dx_takeG 27 rfl rfl rfl rfl rfl rfl (by kernel_rfl) (by kernel_rfl) (by kernel_rfl) s14 (fun _ hS => px_index1 (j := (ys.length - 1)) rfl rfl (by omega) Try.underlying23 Try.sizeOf3 ((f13).chg hS (by omega)) (by omega)) ?_
   refine dx_takeG 28 rfl rfl rfl rfl rfl rfl (by kernel_rfl) (by kernel_rfl) (by kernel_rfl) s14 (fun _ hS => px_load rfl (((f13).chg hS (by omega)).load1 (at_int (by omega)) Try.isAgg3)) ?_
   refine dx_takeG 29 rfl rfl rfl rfl rfl rfl (by kernel_rfl) (by kernel_rfl) (by kernel_rfl) s14 (fun _ hS => px_mul rfl rfl (by omega)) ?_
   refine dx_takeG 30 rfl rfl rfl rfl rfl rfl (by kernel_rfl) (by kernel_rfl) (by kernel_rfl) s14 (fun _ hS => px_sub rfl rfl (by omega)) ?_
   refine dx_takeG 31 rfl rfl rfl rfl rfl rfl (by kernel_rfl) (by kernel_rfl) (by kernel_rfl) s14 (fun _ hS => px_mul rfl rfl (by omega)) ?_
   refine dx_takeG 32 rfl rfl rfl rfl rfl rfl (by kernel_rfl) (by kernel_rfl) (by kernel_rfl) s14 (fun _ hS => px_move rfl) ?_
   refine dx_takeG 33 rfl rfl rfl rfl rfl rfl (by kernel_rfl) (by kernel_rfl) (by kernel_rfl) s14 (fun _ hS => px_move rfl) ?_
   refine dx_takeG 34 rfl rfl rfl rfl rfl rfl (by kernel_rfl) (by kernel_rfl) (by kernel_rfl) s14 (fun _ hS => px_sub rfl rfl (by omega)) ?_
   refine dx_takeG 35 rfl rfl rfl rfl rfl rfl (by kernel_rfl) (by kernel_rfl) (by kernel_rfl) s14 (fun _ hS => px_index1 (j := (ys.length - 2)) rfl rfl (by omega) Try.underlying23 Try.sizeOf3 ((f12.sv).chg hS (by omega)) (by omega)) ?_
   refine dx_takeG 36 rfl rfl rfl rfl rfl rfl (by kernel_rfl) (by kernel_rfl) (by kernel_rfl) s14 (fun _ hS => px_load rfl (((f12.sv).chg hS (by omega)).load1 (at_int (by omega)) Try.isAgg3)) ?_
   refine dx_takeG 37 rfl rfl rfl rfl rfl rfl (by kernel_rfl) (by kernel_rfl) (by kernel_rfl) s14 (fun _ hS => px_add rfl rfl (by omega)) ?_
   refine dx_takeG 38 rfl rfl rfl rfl rfl rfl (by kernel_rfl) (by kernel_rfl) (by kernel_rfl) s14 (fun _ hS => px_gt rfl rfl) ?_
   refine dt 39 rfl rfl rfl rfl s14 (fun _ hS => px_pick rfl rfl) ?_
   refine dx_done (by kernel_rfl) ?_
   refine q_n (k10 _ _ ?_)
   refine sx_sub (Sub.c 0 rfl (.c 1 rfl (.c 5 rfl (.c 6 rfl (.c 7 rfl (.c 68 rfl .nil)))))) ?_
   refine sx_condP rfl (fun h44x2 => ?_) (fun h44x2 => ?_)
   ·
    refine sx_skip ?_
    refine q_n (k9 _ _ ?_)
    refine sx_block ?_
    refine sx_region ?_
    refine mv rfl rfl (sp rfl (px_sub rfl rfl (by omega)) ?_)
    refine av rfl rfl (wl_nil ?_)
    exact q_bn (fun a ha => ⟨_, by omega, (q - 1), ha.sub (Sub.c 0 rfl (.c 1 rfl (.c 5 rfl (.c 6 rfl (.c 7 (look_int (t := 7) rfl (by first | omega | simp)) .nil))))), (cwl8.t d14), rfl, guess_next h2 hzl rfl hz hy hv1 rfl hg (by omega) (by omega)⟩)
   refine sx_exit ?_
   refine q_e (q_e (q_bx (q_n (k7 _ _ ?_))))
   refine sx_seq fun K15 k15 => ?_
   refine sx_seq fun K16 k16 => ?_
   have hge := guess_end h2 hzl rfl hz hy hv1 rfl hg (by first | exact .inl (by omega) | exact .inr (.inl (by omega)) | exact .inr (.inr (by omega)))
   refine sx_region ?_
   refine mv rfl rfl (mv rfl rfl (mv rfl rfl ?_))
   have f17 := f12.ext d14
   have f18 := f13.ext d14
   refine sx_call rfl rfl Try.call93 (c_subTimes f17 f18 (by omega) (by omega) (by assumption) (by assumption) (by omega) (by omega)) (fun v19 w19 p19 => ?_)
   obtain ⟨os19, rfl, ova_19, hs19, c19⟩ := p19
   have zw19 := c19.size
   have hol := hs19.1.trans hzl
   have hlmx := hs19.2.1
   have hst := step_sub hzl hz hy rfl hV hq0 hg.up hge hol hs19.2.1 hs19.2.2
   refine wl_nil (q_n (k16 _ _ ?_))
   refine sx_condP rfl (fun h47 => ?_) (fun h47 => ?_)
   ·
    have hs2 := hst.2 h47
    have hs3 := hs2.1
    refine sx_seq fun K20 k20 => sx_region ?_
    refine mv rfl rfl (sp rfl (px_sub rfl rfl (by omega)) ?_)
    refine av rfl rfl (wl_nil (q_n (k20 _ _ ?_)))
    refine sx_region ?_
    refine mv rfl rfl (mv rfl rfl ?_)
    have f21 := f18.chg c19 (by omega)
    refine sx_call rfl rfl Try.call94 (c_addBack ova_19 f21 (by omega) (hol) (by assumption) (by assumption) (by omega) (by omega)) (fun v22 w22 p22 => ?_)
    obtain ⟨os22, rfl, ova_22, hs22, c22⟩ := p22
    have zw22 := c22.size
    have hfl := hs22.1.trans hol
    have hfin := hs2.2.2 _ hfl hs22.2.1 hs22.2.2
    refine wl_nil (q_n (k15 _ _ ?_))
    refine sx_sub (Sub.c 7 rfl .nil) ?_
    refine sx_seq fun K23 k23 => sx_region ?_
    refine mv rfl rfl (av rfl rfl (wl_nil (q_n (k23 _ _ ?_))))
    refine sx_retc ?_
    refine sx_ret1 Try.results88 rfl ?_
    have q24 := Chg.step (l := lva) (h := uva) (Chg.zero (l := lva) (h := uva) ((d4.t cwl8).t d14)) c19 (by omega)
    have q25 := Chg.step (l := lva) (h := uva) q24 c22 (by omega)
    exact ⟨_, by rw [hs2.2.1], ova_22, ⟨hfin.1, by omega, hfin.2⟩, q25⟩
   have hs1 := hst.1 (by omega)
   refine sx_skip ?_
   refine q_n (k15 _ _ ?_)
   refine sx_seq fun K26 k26 => sx_region ?_
   refine mv rfl rfl (av rfl rfl (wl_nil (q_n (k26 _ _ ?_))))
   refine sx_retc ?_
   refine sx_ret1 Try.results88 rfl ?_
   have q27 := Chg.step (l := lva) (h := uva) (Chg.zero (l := lva) (h := uva) ((d4.t cwl8).t d14)) c19 (by omega)
   exact ⟨_, by rw [hs1.1], ova_19, ⟨hs1.2.1, by omega, hs1.2.2⟩, q27⟩
  have f29 := (hva.ext d4).ext cwl8
  have f30 := f6.ext cwl8
  refine dx_region (fun w' => Chg 0 0 wl8 w') (by kernel_rfl) (Chg.zero (Chg.drew _)) ?_
  have d31 := Chg.drew wl8
  have s31 : Chg 0 0 wl8 (World.drew wl8) := Chg.zero (Chg.drew _)
  have y31 : (World.drew wl8).heap.size = wl8.heap.size := rfl
  generalize World.drew wl8 = w31 at *
  have zw31 := d31.size
  refine dt 0 rfl rfl rfl rfl s31 (fun _ hS => px_move rfl) ?_
  refine dt 1 rfl rfl rfl rfl s31 (fun _ hS => px_gt rfl rfl) ?_
  refine dt 2 rfl rfl rfl rfl s31 (fun _ hS => px_move rfl) ?_
  have h44 : (0 : Int) < q := by omega
  refine dx_tmpPT (t := 31) rfl h44 ?_
  refine dx_takeG 3 rfl rfl rfl rfl rfl rfl (by kernel_rfl) (by kernel_rfl) (by kernel_rfl) s31 (fun _ hS => px_move rfl) ?_
  refine dx_takeG 4 rfl rfl rfl rfl rfl rfl (by kernel_rfl) (by kernel_rfl) (by kernel_rfl) s31 (fun _ hS => px_move rfl) ?_
  refine dx_takeG 5 rfl rfl rfl rfl rfl rfl (by kernel_rfl) (by kernel_rfl) (by kernel_rfl) s31 (fun _ hS => px_move rfl) ?_
  refine dx_takeG 6 rfl rfl rfl rfl rfl rfl (by kernel_rfl) (by kernel_rfl) (by kernel_rfl) s31 (fun _ hS => px_move rfl) ?_
  refine dx_takeG 7 rfl rfl rfl rfl rfl rfl (by kernel_rfl) (by kernel_rfl) (by kernel_rfl) s31 (fun _ hS => px_sub rfl rfl (by omega)) ?_
  refine dx_takeG 8 rfl rfl rfl rfl rfl rfl (by kernel_rfl) (by kernel_rfl) (by kernel_rfl) s31 (fun _ hS => px_index1 (j := (ys.length - 1)) rfl rfl (by omega) Try.underlying23 Try.sizeOf3 ((f30).chg hS (by omega)) (by omega)) ?_
  refine dx_takeG 9 rfl rfl rfl rfl rfl rfl (by kernel_rfl) (by kernel_rfl) (by kernel_rfl) s31 (fun _ hS => px_load rfl (((f30).chg hS (by omega)).load1 (at_int (by omega)) Try.isAgg3)) ?_
  refine dx_takeG 10 rfl rfl rfl rfl rfl rfl (by kernel_rfl) (by kernel_rfl) (by kernel_rfl) s31 (fun _ hS => px_mul rfl rfl (by omega)) ?_
  refine dx_takeG 11 rfl rfl rfl rfl rfl rfl (by kernel_rfl) (by kernel_rfl) (by kernel_rfl) s31 (fun _ hS => px_sub rfl rfl (by omega)) ?_
  refine dx_takeG 12 rfl rfl rfl rfl rfl rfl (by kernel_rfl) (by kernel_rfl) (by kernel_rfl) s31 (fun _ hS => px_lt rfl rfl) ?_
  refine dt 13 rfl rfl rfl rfl s31 (fun _ hS => px_pick rfl rfl) ?_
  refine dt 14 rfl rfl rfl rfl s31 (fun _ hS => px_move rfl) ?_
  have h44x1 : ¬ ((((((zs).getD ((ys).length) 0) * 1000000000) + ((zs).getD ((ys).length - 1) 0)) - (q * ((ys).getD (ys.length - 1) 0)) : Int) < 1000000000) := by omega
  refine dx_tmpPF (t := 43) rfl h44x1 ?_
  refine dx_skip 15 rfl rfl rfl rfl rfl rfl rfl (by kernel_rfl) (by kernel_rfl) (by kernel_rfl) s31 ?_
  refine dx_skip 16 rfl rfl rfl rfl rfl rfl rfl (by kernel_rfl) (by kernel_rfl) (by kernel_rfl) s31 ?_
  refine dx_skip 17 rfl rfl rfl rfl rfl rfl rfl (by kernel_rfl) (by kernel_rfl) (by kernel_rfl) s31 ?_
  refine dx_skip 18 rfl rfl rfl rfl rfl rfl rfl (by kernel_rfl) (by kernel_rfl) (by kernel_rfl) s31 ?_
  refine dx_skip 19 rfl rfl rfl rfl rfl rfl rfl (by kernel_rfl) (by kernel_rfl) (by kernel_rfl) s31 ?_
  refine dx_skip 20 rfl rfl rfl rfl rfl rfl rfl (by kernel_rfl) (by kernel_rfl) (by kernel_rfl) s31 ?_
  refine dx_skip 21 rfl rfl rfl rfl rfl rfl rfl (by kernel_rfl) (by kernel_rfl) (by kernel_rfl) s31 ?_
  refine dx_skip 22 rfl rfl rfl rfl rfl rfl rfl (by kernel_rfl) (by kernel_rfl) (by kernel_rfl) s31 ?_
  refine dx_skip 23 rfl rfl rfl rfl rfl rfl rfl (by kernel_rfl) (by kernel_rfl) (by kernel_rfl) s31 ?_
  refine dx_skip 24 rfl rfl rfl rfl rfl rfl rfl (by kernel_rfl) (by kernel_rfl) (by kernel_rfl) s31 ?_
  refine dx_skip 25 rfl rfl rfl rfl rfl rfl rfl (by kernel_rfl) (by kernel_rfl) (by kernel_rfl) s31 ?_
  refine dx_skip 26 rfl rfl rfl rfl rfl rfl rfl (by kernel_rfl) (by kernel_rfl) (by kernel_rfl) s31 ?_
  refine dx_skip 27 rfl rfl rfl rfl rfl rfl rfl (by kernel_rfl) (by kernel_rfl) (by kernel_rfl) s31 ?_
  refine dx_skip 28 rfl rfl rfl rfl rfl rfl rfl (by kernel_rfl) (by kernel_rfl) (by kernel_rfl) s31 ?_
  refine dx_skip 29 rfl rfl rfl rfl rfl rfl rfl (by kernel_rfl) (by kernel_rfl) (by kernel_rfl) s31 ?_
  refine dx_skip 30 rfl rfl rfl rfl rfl rfl rfl (by kernel_rfl) (by kernel_rfl) (by kernel_rfl) s31 ?_
  refine dx_skip 31 rfl rfl rfl rfl rfl rfl rfl (by kernel_rfl) (by kernel_rfl) (by kernel_rfl) s31 ?_
  refine dx_skip 32 rfl rfl rfl rfl rfl rfl rfl (by kernel_rfl) (by kernel_rfl) (by kernel_rfl) s31 ?_
  refine dx_skip 33 rfl rfl rfl rfl rfl rfl rfl (by kernel_rfl) (by kernel_rfl) (by kernel_rfl) s31 ?_
  refine dx_skip 34 rfl rfl rfl rfl rfl rfl rfl (by kernel_rfl) (by kernel_rfl) (by kernel_rfl) s31 ?_
  refine dx_skip 35 rfl rfl rfl rfl rfl rfl rfl (by kernel_rfl) (by kernel_rfl) (by kernel_rfl) s31 ?_
  refine dx_skip 36 rfl rfl rfl rfl rfl rfl rfl (by kernel_rfl) (by kernel_rfl) (by kernel_rfl) s31 ?_
  refine dx_skip 37 rfl rfl rfl rfl rfl rfl rfl (by kernel_rfl) (by kernel_rfl) (by kernel_rfl) s31 ?_
  refine dx_skip 38 rfl rfl rfl rfl rfl rfl rfl (by kernel_rfl) (by kernel_rfl) (by kernel_rfl) s31 ?_
  refine dt 39 rfl rfl rfl rfl s31 (fun _ hS => px_pick rfl rfl) ?_
  refine dx_done (by kernel_rfl) ?_
  refine q_n (k10 _ _ ?_)
  refine sx_sub (Sub.c 0 rfl (.c 1 rfl (.c 5 rfl (.c 6 rfl (.c 7 rfl (.c 68 rfl .nil)))))) ?_
  refine sx_condF rfl ?_
  refine sx_exit ?_
  refine q_e (q_e (q_bx (q_n (k7 _ _ ?_))))
  refine sx_seq fun K32 k32 => ?_
  refine sx_seq fun K33 k33 => ?_
  have hge := guess_end h2 hzl rfl hz hy hv1 rfl hg (by first | exact .inl (by omega) | exact .inr (.inl (by omega)) | exact .inr (.inr (by omega)))
  refine sx_region ?_
  refine mv rfl rfl (mv rfl rfl (mv rfl rfl ?_))
  have f34 := f29.ext d31
  have f35 := f30.ext d31
  refine sx_call rfl rfl Try.call93 (c_subTimes f34 f35 (by omega) (by omega) (by assumption) (by assumption) (by omega) (by omega)) (fun v36 w36 p36 => ?_)
  obtain ⟨os36, rfl, ova_36, hs36, c36⟩ := p36
  have zw36 := c36.size
  have hol := hs36.1.trans hzl
  have hlmx := hs36.2.1
  have hst := step_sub hzl hz hy rfl hV hq0 hg.up hge hol hs36.2.1 hs36.2.2
  refine wl_nil (q_n (k33 _ _ ?_))
  refine sx_condP rfl (fun h47 => ?_) (fun h47 => ?_)
  ·
   have hs2 := hst.2 h47
   have hs3 := hs2.1
   refine sx_seq fun K37 k37 => sx_region ?_
   refine mv rfl rfl (sp rfl (px_sub rfl rfl (by omega)) ?_)
   refine av rfl rfl (wl_nil (q_n (k37 _ _ ?_)))
   refine sx_region ?_
   refine mv rfl rfl (mv rfl rfl ?_)
   have f38 := f35.chg c36 (by omega)
   refine sx_call rfl rfl Try.call94 (c_addBack ova_36 f38 (by omega) (hol) (by assumption) (by assumption) (by omega) (by omega)) (fun v39 w39 p39 => ?_)
   obtain ⟨os39, rfl, ova_39, hs39, c39⟩ := p39
   have zw39 := c39.size
   have hfl := hs39.1.trans hol
   have hfin := hs2.2.2 _ hfl hs39.2.1 hs39.2.2
   refine wl_nil (q_n (k32 _ _ ?_))
   refine sx_sub (Sub.c 7 rfl .nil) ?_
   refine sx_seq fun K40 k40 => sx_region ?_
   refine mv rfl rfl (av rfl rfl (wl_nil (q_n (k40 _ _ ?_))))
   refine sx_retc ?_
   refine sx_ret1 Try.results88 rfl ?_
   have q41 := Chg.step (l := lva) (h := uva) (Chg.zero (l := lva) (h := uva) ((d4.t cwl8).t d31)) c36 (by omega)
   have q42 := Chg.step (l := lva) (h := uva) q41 c39 (by omega)
   exact ⟨_, by rw [hs2.2.1], ova_39, ⟨hfin.1, by omega, hfin.2⟩, q42⟩
  have hs1 := hst.1 (by omega)
  refine sx_skip ?_
  refine q_n (k32 _ _ ?_)
  refine sx_seq fun K43 k43 => sx_region ?_
  refine mv rfl rfl (av rfl rfl (wl_nil (q_n (k43 _ _ ?_))))
  refine sx_retc ?_
  refine sx_ret1 Try.results88 rfl ?_
  have q44 := Chg.step (l := lva) (h := uva) (Chg.zero (l := lva) (h := uva) ((d4.t cwl8).t d31)) c36 (by omega)
  exact ⟨_, by rw [hs1.1], ova_36, ⟨hs1.2.1, by omega, hs1.2.2⟩, q44⟩
 have f46 := (hva.ext d4).ext cwl8
 have f47 := f6.ext cwl8
 refine dx_region (fun w' => Chg 0 0 wl8 w') (by kernel_rfl) (Chg.zero (Chg.drew _)) ?_
 have d48 := Chg.drew wl8
 have s48 : Chg 0 0 wl8 (World.drew wl8) := Chg.zero (Chg.drew _)
 have y48 : (World.drew wl8).heap.size = wl8.heap.size := rfl
 generalize World.drew wl8 = w48 at *
 have zw48 := d48.size
 refine dt 0 rfl rfl rfl rfl s48 (fun _ hS => px_move rfl) ?_
 refine dt 1 rfl rfl rfl rfl s48 (fun _ hS => px_gt rfl rfl) ?_
 refine dt 2 rfl rfl rfl rfl s48 (fun _ hS => px_move rfl) ?_
 have h44 : ¬ ((0 : Int) < q) := by omega
 refine dx_tmpPF (t := 31) rfl h44 ?_
 refine dx_skip 3 rfl rfl rfl rfl rfl rfl rfl (by kernel_rfl) (by kernel_rfl) (by kernel_rfl) s48 ?_
 refine dx_skip 4 rfl rfl rfl rfl rfl rfl rfl (by kernel_rfl) (by kernel_rfl) (by kernel_rfl) s48 ?_
 refine dx_skip 5 rfl rfl rfl rfl rfl rfl rfl (by kernel_rfl) (by kernel_rfl) (by kernel_rfl) s48 ?_
 refine dx_skip 6 rfl rfl rfl rfl rfl rfl rfl (by kernel_rfl) (by kernel_rfl) (by kernel_rfl) s48 ?_
 refine dx_skip 7 rfl rfl rfl rfl rfl rfl rfl (by kernel_rfl) (by kernel_rfl) (by kernel_rfl) s48 ?_
 refine dx_skip 8 rfl rfl rfl rfl rfl rfl rfl (by kernel_rfl) (by kernel_rfl) (by kernel_rfl) s48 ?_
 refine dx_skip 9 rfl rfl rfl rfl rfl rfl rfl (by kernel_rfl) (by kernel_rfl) (by kernel_rfl) s48 ?_
 refine dx_skip 10 rfl rfl rfl rfl rfl rfl rfl (by kernel_rfl) (by kernel_rfl) (by kernel_rfl) s48 ?_
 refine dx_skip 11 rfl rfl rfl rfl rfl rfl rfl (by kernel_rfl) (by kernel_rfl) (by kernel_rfl) s48 ?_
 refine dx_skip 12 rfl rfl rfl rfl rfl rfl rfl (by kernel_rfl) (by kernel_rfl) (by kernel_rfl) s48 ?_
 refine dt 13 rfl rfl rfl rfl s48 (fun _ hS => px_pick rfl rfl) ?_
 refine dt 14 rfl rfl rfl rfl s48 (fun _ hS => px_move rfl) ?_
 refine dx_skip 15 rfl rfl rfl rfl rfl rfl rfl (by kernel_rfl) (by kernel_rfl) (by kernel_rfl) s48 ?_
 refine dx_skip 16 rfl rfl rfl rfl rfl rfl rfl (by kernel_rfl) (by kernel_rfl) (by kernel_rfl) s48 ?_
 refine dx_skip 17 rfl rfl rfl rfl rfl rfl rfl (by kernel_rfl) (by kernel_rfl) (by kernel_rfl) s48 ?_
 refine dx_skip 18 rfl rfl rfl rfl rfl rfl rfl (by kernel_rfl) (by kernel_rfl) (by kernel_rfl) s48 ?_
 refine dx_skip 19 rfl rfl rfl rfl rfl rfl rfl (by kernel_rfl) (by kernel_rfl) (by kernel_rfl) s48 ?_
 refine dx_skip 20 rfl rfl rfl rfl rfl rfl rfl (by kernel_rfl) (by kernel_rfl) (by kernel_rfl) s48 ?_
 refine dx_skip 21 rfl rfl rfl rfl rfl rfl rfl (by kernel_rfl) (by kernel_rfl) (by kernel_rfl) s48 ?_
 refine dx_skip 22 rfl rfl rfl rfl rfl rfl rfl (by kernel_rfl) (by kernel_rfl) (by kernel_rfl) s48 ?_
 refine dx_skip 23 rfl rfl rfl rfl rfl rfl rfl (by kernel_rfl) (by kernel_rfl) (by kernel_rfl) s48 ?_
 refine dx_skip 24 rfl rfl rfl rfl rfl rfl rfl (by kernel_rfl) (by kernel_rfl) (by kernel_rfl) s48 ?_
 refine dx_skip 25 rfl rfl rfl rfl rfl rfl rfl (by kernel_rfl) (by kernel_rfl) (by kernel_rfl) s48 ?_
 refine dx_skip 26 rfl rfl rfl rfl rfl rfl rfl (by kernel_rfl) (by kernel_rfl) (by kernel_rfl) s48 ?_
 refine dx_skip 27 rfl rfl rfl rfl rfl rfl rfl (by kernel_rfl) (by kernel_rfl) (by kernel_rfl) s48 ?_
 refine dx_skip 28 rfl rfl rfl rfl rfl rfl rfl (by kernel_rfl) (by kernel_rfl) (by kernel_rfl) s48 ?_
 refine dx_skip 29 rfl rfl rfl rfl rfl rfl rfl (by kernel_rfl) (by kernel_rfl) (by kernel_rfl) s48 ?_
 refine dx_skip 30 rfl rfl rfl rfl rfl rfl rfl (by kernel_rfl) (by kernel_rfl) (by kernel_rfl) s48 ?_
 refine dx_skip 31 rfl rfl rfl rfl rfl rfl rfl (by kernel_rfl) (by kernel_rfl) (by kernel_rfl) s48 ?_
 refine dx_skip 32 rfl rfl rfl rfl rfl rfl rfl (by kernel_rfl) (by kernel_rfl) (by kernel_rfl) s48 ?_
 refine dx_skip 33 rfl rfl rfl rfl rfl rfl rfl (by kernel_rfl) (by kernel_rfl) (by kernel_rfl) s48 ?_
 refine dx_skip 34 rfl rfl rfl rfl rfl rfl rfl (by kernel_rfl) (by kernel_rfl) (by kernel_rfl) s48 ?_
 refine dx_skip 35 rfl rfl rfl rfl rfl rfl rfl (by kernel_rfl) (by kernel_rfl) (by kernel_rfl) s48 ?_
 refine dx_skip 36 rfl rfl rfl rfl rfl rfl rfl (by kernel_rfl) (by kernel_rfl) (by kernel_rfl) s48 ?_
 refine dx_skip 37 rfl rfl rfl rfl rfl rfl rfl (by kernel_rfl) (by kernel_rfl) (by kernel_rfl) s48 ?_
 refine dx_skip 38 rfl rfl rfl rfl rfl rfl rfl (by kernel_rfl) (by kernel_rfl) (by kernel_rfl) s48 ?_
 refine dt 39 rfl rfl rfl rfl s48 (fun _ hS => px_pick rfl rfl) ?_
 refine dx_done (by kernel_rfl) ?_
 refine q_n (k10 _ _ ?_)
 refine sx_sub (Sub.c 0 rfl (.c 1 rfl (.c 5 rfl (.c 6 rfl (.c 7 rfl (.c 68 rfl .nil)))))) ?_
 refine sx_condF rfl ?_
 refine sx_exit ?_
 refine q_e (q_e (q_bx (q_n (k7 _ _ ?_))))
 refine sx_seq fun K49 k49 => ?_
 refine sx_seq fun K50 k50 => ?_
 have hge := guess_end h2 hzl rfl hz hy hv1 rfl hg (by first | exact .inl (by omega) | exact .inr (.inl (by omega)) | exact .inr (.inr (by omega)))
 refine sx_region ?_
 refine mv rfl rfl (mv rfl rfl (mv rfl rfl ?_))
 have f51 := f46.ext d48
 have f52 := f47.ext d48
 refine sx_call rfl rfl Try.call93 (c_subTimes f51 f52 (by omega) (by omega) (by assumption) (by assumption) (by omega) (by omega)) (fun v53 w53 p53 => ?_)
 obtain ⟨os53, rfl, ova_53, hs53, c53⟩ := p53
 have zw53 := c53.size
 have hol := hs53.1.trans hzl
 have hlmx := hs53.2.1
 have hst := step_sub hzl hz hy rfl hV hq0 hg.up hge hol hs53.2.1 hs53.2.2
 refine wl_nil (q_n (k50 _ _ ?_))
 refine sx_condP rfl (fun h47 => ?_) (fun h47 => ?_)
 ·
  have hs2 := hst.2 h47
  have hs3 := hs2.1
  refine sx_seq fun K54 k54 => sx_region ?_
  refine mv rfl rfl (sp rfl (px_sub rfl rfl (by omega)) ?_)
  refine av rfl rfl (wl_nil (q_n (k54 _ _ ?_)))
  refine sx_region ?_
  refine mv rfl rfl (mv rfl rfl ?_)
  have f55 := f52.chg c53 (by omega)
  refine sx_call rfl rfl Try.call94 (c_addBack ova_53 f55 (by omega) (hol) (by assumption) (by assumption) (by omega) (by omega)) (fun v56 w56 p56 => ?_)
  obtain ⟨os56, rfl, ova_56, hs56, c56⟩ := p56
  have zw56 := c56.size
  have hfl := hs56.1.trans hol
  have hfin := hs2.2.2 _ hfl hs56.2.1 hs56.2.2
  refine wl_nil (q_n (k49 _ _ ?_))
  refine sx_sub (Sub.c 7 rfl .nil) ?_
  refine sx_seq fun K57 k57 => sx_region ?_
  refine mv rfl rfl (av rfl rfl (wl_nil (q_n (k57 _ _ ?_))))
  refine sx_retc ?_
  refine sx_ret1 Try.results88 rfl ?_
  have q58 := Chg.step (l := lva) (h := uva) (Chg.zero (l := lva) (h := uva) ((d4.t cwl8).t d48)) c53 (by omega)
  have q59 := Chg.step (l := lva) (h := uva) q58 c56 (by omega)
  exact ⟨_, by rw [hs2.2.1], ova_56, ⟨hfin.1, by omega, hfin.2⟩, q59⟩
 have hs1 := hst.1 (by omega)
 refine sx_skip ?_
 refine q_n (k49 _ _ ?_)
 refine sx_seq fun K60 k60 => sx_region ?_
 refine mv rfl rfl (av rfl rfl (wl_nil (q_n (k60 _ _ ?_))))
 refine sx_retc ?_
 refine sx_ret1 Try.results88 rfl ?_
 have q61 := Chg.step (l := lva) (h := uva) (Chg.zero (l := lva) (h := uva) ((d4.t cwl8).t d48)) c53 (by omega)
 exact ⟨_, by rw [hs1.1], ova_53, ⟨hs1.2.1, by omega, hs1.2.2⟩, q61⟩

theorem c_natDiv {w : World} {va : Value} {lva uva : Nat} {m : Nat} {vb : Value} {lvb uvb : Nat} {n : Nat} (hva : Sl w lva uva va (dg m)) (hvb : Sl w lvb uvb vb (dg n)) (hbm : (dg m).length ≤ 400) (hbn : (dg n).length ≤ 400) (hn0 : 0 < n) :
  Ret Try.prog 64 [va, vb] w fun v w' => ∃ s t, v = .tuple #[s, t] ∧ OwnI w' w.heap.size w'.heap.size s intT (dg (m / n)) ∧ OwnI w' w.heap.size w'.heap.size t intT (dg (m % n)) ∧ Chg 0 0 w w' := by
 have hva0 := hva.fit
 have hvb0 := hvb.fit
 have htp := dg_top hn0
 have hbt := (Lm_dg n).getD ((dg n).length - 1)
 refine sx_enter Try.func64 rfl Try.ntmps64 (nbl rfl) ?_
 refine sx_seq fun K1 k1 => sx_region ?_
 refine av rfl rfl (av rfl rfl (wl_nil (q_n (k1 _ _ ?_))))
 refine sx_seq fun K2 k2 => ?_
 refine sx_seq fun K3 k3 => sx_region ?_
 refine mv rfl rfl (mv rfl rfl (sx_call rfl rfl Try.call65 (c_natCmp hva0 hvb0 (by omega)) (fun v4 w4 p4 => ?_)))
 obtain ⟨rfl, c4⟩ := p4
 have zw4 := c4.size
 refine sp rfl (px_lt rfl rfl) ?_
 refine wl_nil (q_n (k3 _ _ ?_))
 refine sx_condP rfl (fun h17 => ?_) (fun h17 => ?_)
 ·
  rw [cmpL_dg] at h17
  have hlt := cmpN_neg.1 h17
  refine sx_seq fun K5 k5 => sx_region ?_
  refine sx_lit0 rfl xelt23 (fun s6 ws6 ss6 fs6 cs6 => ?_)
  have zws6 := cs6.size
  refine mv rfl rfl ?_
  have f8 := (hva0.ext c4).ext cs6
  refine sx_call rfl rfl Try.call63 (c_natCopy f8 (by omega)) (fun v9 w9 p9 => ?_)
  obtain ⟨s9, rfl, os_9, c9⟩ := p9
  have zw9 := c9.size
  refine av rfl rfl (av rfl rfl (wl_nil (q_n (k5 _ _ ?_))))
  refine sx_retc ?_
  refine q_r (sx_ret2 Try.results64 rfl rfl ?_)
  rw [Nat.div_eq_of_lt hlt, Nat.mod_eq_of_lt hlt, dg_zero]
  have f10 := fs6.ext c9
  exact ⟨_, _, rfl, (Own.mono f10 (by omega) (by omega)), (Own.mono os_9 (by omega) (by omega)), ((c4.t cs6).t c9)⟩
 rw [cmpL_dg] at h17
 have hge := Nat.le_of_not_lt (mt cmpN_neg.2 h17)
 have hab := len_le hge
 have hb0 := len_pos.2 hn0
 refine sx_skip ?_
 refine q_n (k2 _ _ ?_)
 refine sx_seq fun K11 k11 => ?_
 refine sx_seq fun K12 k12 => sx_region ?_
 refine mv rfl rfl ?_
 have f13 := hvb0.ext c4
 refine sp rfl (px_len rfl Try.underlying23 f13) ?_
 refine sp rfl (px_eq rfl rfl) ?_
 refine wl_nil (q_n (k12 _ _ ?_))
 refine sx_condP rfl (fun h20 => ?_) (fun h20 => ?_)
 ·
  refine sx_seq fun K14 k14 => sx_region ?_
  refine mv rfl rfl (mv rfl rfl (sp rfl (px_index1 (j := 0) rfl rfl (by omega) Try.underlying23 Try.sizeOf3 f13 (by omega)) ?_))
  refine sp rfl (px_load rfl (f13.load1 (at_int (by omega)) Try.isAgg3)) ?_
  have f15 := hva0.ext c4
  refine sx_call rfl rfl Try.call86 (c_natSmall f15 (by omega) (by have h9 := one_limb (n := n) (by omega); omega)) (fun v16 w16 p16 => ?_)
  obtain ⟨s16, rfl, os_16, c16⟩ := p16
  have zw16 := c16.size
  refine mv rfl rfl (sp rfl (px_ex2 rfl rfl) ?_)
  refine sp rfl (px_ex2 rfl rfl) ?_
  refine av rfl rfl (av rfl rfl (wl_nil (q_n (k14 _ _ ?_))))
  refine sx_sub (Sub.c 0 rfl (.c 1 rfl (.c 4 rfl (.c 5 rfl (.c 6 rfl (.c 7 rfl .nil)))))) ?_
  refine sx_seq fun K17 k17 => sx_region ?_
  refine mv rfl rfl (mv rfl rfl (sx_call rfl rfl Try.call87 (c_iNatOf (by have h9 := one_limb (n := n) (by omega); have h8 := Nat.mod_lt m (show 0 < ((dg n).getD 0 0).toNat by omega); omega)) (fun v18 w18 p18 => ?_)))
  obtain ⟨s18, rfl, os_18, c18⟩ := p18
  have zw18 := c18.size
  refine av rfl rfl (av rfl rfl (wl_nil (q_n (k17 _ _ ?_))))
  refine sx_retc ?_
  refine q_r (sx_ret2 Try.results64 rfl rfl ?_)
  have e1 := (one_limb (n := n) (by omega)).1
  have f19 := os_16.ext c18
  have r1 := f19
  have r2 := os_18
  rw [Int.toNat_natCast] at r2
  rw [e1] at r1 r2
  exact ⟨_, _, rfl, r1.mono (by omega) (by omega), r2.mono (by omega) (by omega), ((c4.t c16).t c18)⟩
 refine sx_skip ?_
 refine q_n (k11 _ _ ?_)
 refine sx_seq fun K20 k20 => sx_region ?_
 refine mv rfl rfl (mv rfl rfl (sp rfl (px_len rfl Try.underlying23 f13) ?_))
 refine sp rfl (px_sub rfl rfl (by omega)) ?_
 refine sp rfl (px_index1 (j := ((dg n).length - 1)) rfl rfl (by omega) Try.underlying23 Try.sizeOf3 f13 (by omega)) ?_
 refine sp rfl (px_load rfl (f13.load1 (at_int (by omega)) Try.isAgg3)) ?_
 refine sp rfl (px_add rfl rfl (by omega)) ?_
 refine sp rfl (px_quo rfl rfl (by omega) (by omega) (by omega)) ?_
 refine av rfl rfl (wl_nil (q_n (k20 _ _ ?_)))
 refine sx_sub (Sub.c 0 rfl (.c 1 rfl (.c 4 rfl (.c 5 rfl (.c 8 rfl .nil))))) ?_
 refine sx_seq fun K21 k21 => ?_
 have hsb := scale_bd htp (by omega)
 generalize 1000000000 / (((dg n).getD ((dg n).length - 1) 0) + 1) = s at *
 have evs : vl [s] = s.toNat := by simp [vl]
 have hpos : 0 < n * s.toNat := Nat.mul_pos hn0 (by omega)
 refine sx_region ?_
 refine mv rfl rfl (mv rfl rfl ?_)
 refine sx_lit1 rfl xelt23 rfl rfl (fun s22 ws22 ss22 fs22 cs22 => ?_)
 have ns22 := Own.norm (f := (Value.int .i64)) (zs := [s]) fs22
 have zws22 := cs22.size
 have f24 := (hva0.ext c4).ext cs22
 refine sx_call rfl rfl Try.call48 (c_natMulS f24 ns22.sv (by omega) (by simp only [List.length_cons, List.length_nil]; omega) (one_dg (by omega) (by omega))) (fun v25 w25 p25 => ?_)
 obtain ⟨s25, rfl, os_25, c25⟩ := p25
 have zw25 := c25.size
 refine av rfl rfl (wl_nil (q_n (k21 _ _ ?_)))
 refine sx_seq fun K26 k26 => ?_
 have f27 := os_25
 rw [evs] at f27
 refine sx_region ?_
 refine mv rfl rfl (mv rfl rfl ?_)
 refine sx_lit1 rfl xelt23 rfl rfl (fun s28 ws28 ss28 fs28 cs28 => ?_)
 have ns28 := Own.norm (f := (Value.int .i64)) (zs := [s]) fs28
 have zws28 := cs28.size
 have f29 := f13.ext cs22
 have f31 := (f29.ext c25).ext cs28
 refine sx_call rfl rfl Try.call48 (c_natMulS f31 ns28.sv (by omega) (by simp only [List.length_cons, List.length_nil]; omega) (one_dg (by omega) (by omega))) (fun v32 w32 p32 => ?_)
 obtain ⟨s32, rfl, os_32, c32⟩ := p32
 have zw32 := c32.size
 refine av rfl rfl (wl_nil (q_n (k26 _ _ ?_)))
 refine sx_sub (Sub.c 0 rfl (.c 4 rfl (.c 5 rfl (.c 8 rfl (.c 9 rfl (.c 10 rfl .nil)))))) ?_
 refine sx_seq fun K33 k33 => ?_
 refine sx_block ?_
 have f34 := os_32
 rw [evs] at f34
 have hlv := scale_len hn0 hsb.1 hsb.2.2
 have hlu := len_mul m s.toNat
 have hl1 : (dg s.toNat).length ≤ 1 := dg_len_le (by simp only [Bs]; omega)
 have f36 := f27.ext cs28
 have f37 := f36.ext c32
 refine sx_loop (fun mm aa w' => ∃ (su : Value) (us : List Int) (gl : Nat) (gh : Nat), Agr 97 [(0, va), (8, .int .i64 s), (9, su), (10, v32)] aa ∧ Chg ws22.heap.size w32.heap.size w32 w' ∧ Own w' gl gh su intT us.length 1 (us.map (Value.int .i64)) ∧ Own w' ws28.heap.size w32.heap.size v32 intT ((dg (n * s.toNat)).length) 1 ((dg (n * s.toNat)).map (Value.int .i64)) ∧ (mm = (dg m).length + 1 - us.length) ∧ ((gl = ws22.heap.size ∧ gh = w25.heap.size) ∨ w32.heap.size ≤ gl) ∧ (gl ≤ w'.heap.size ∧ gh ≤ w'.heap.size) ∧ (Lm us) ∧ (vl us = m * s.toNat) ∧ (us.length ≤ (dg m).length + 1)) (_) (fun a ha => ⟨v25, dg (m * s.toNat), ws22.heap.size, w25.heap.size, ha.sub (Sub.c 0 rfl (.c 8 rfl (.c 9 rfl (.c 10 rfl .nil)))), Chg.refl _ _ _, f37, f34, rfl, .inl ⟨rfl, rfl⟩, by omega, Lm_dg _, vl_dg _, by omega⟩) ?_
 rintro mm aa wl35 ⟨su, us, gl, gh, hAwl35, cwl35, hs_su, hs_v32, hm, hgl, hgh, hlm, hv, hul⟩
 refine (show cw Try.prog 97 _ _ _ wl35 from ?_) aa hAwl35
 clear hAwl35
 have zwl35 := cwl35.size
 refine sx_seq fun K38 k38 => ?_
 refine sx_seq fun K39 k39 => sx_region ?_
 refine mv rfl rfl (sp rfl (px_len rfl Try.underlying23 hs_su.sv) ?_)
 refine mv rfl rfl ?_
 have f41 := (f24.ext c25).ext cs28
 have f43 := (f41.ext c32).chg cwl35 (by omega)
 refine sp rfl (px_len rfl Try.underlying23 f43) ?_
 refine sp rfl (px_le rfl rfl) ?_
 refine wl_nil (q_n (k39 _ _ ?_))
 refine sx_condP rfl (fun h27 => ?_) (fun h27 => ?_)
 ·
  refine sx_skip ?_
  refine q_n (k38 _ _ ?_)
  refine sx_block ?_
  refine sx_region ?_
  refine mv rfl rfl ?_
  refine sx_lit1 rfl xelt23 rfl rfl (fun s44 ws44 ss44 fs44 cs44 => ?_)
  have ns44 := Own.norm (f := (Value.int .i64)) (zs := [0]) fs44
  have zws44 := cs44.size
  have f46 := hs_su.ext cs44
  refine sx_append2 rfl xelt23 rfl rfl f46 ns44.sv (by simp) one_int (by omega) (by simp only [List.length_cons, List.length_nil]; omega) (by unfold maxLen; simp only [List.length_cons, List.length_nil]; omega) (fun a45 w45 alw45 ahw45 adw45 fw45 cw45 => ?_)
  have nw45 := Own.app (f := (Value.int .i64)) (a := us) (b := [0]) fw45
  have zw45 := cw45.size
  refine av rfl rfl (wl_nil ?_)
  have q47 := Chg.step (l := ws22.heap.size) (h := w32.heap.size) cwl35 cs44 (by omega)
  have q48 := Chg.step (l := ws22.heap.size) (h := w32.heap.size) q47 cw45 (by omega)
  have f49 := hs_v32.ext cs44
  have f50 := f49.chg cw45 (by omega)
  have happ : (us ++ ([0])).length = us.length + 1 := by simp
  exact q_bn (fun a ha => ⟨_, by omega, a45, (us ++ ([0])), alw45, ahw45, ha.sub (Sub.c 0 rfl (.c 8 rfl (.c 9 rfl (.c 10 rfl .nil)))), q48, (nw45.mono (by omega) (by omega)), (f50.mono (by omega) (by omega)), rfl, by omega, by omega, hlm.append (Lm.single (by decide) (by decide)), by rw [vl_concat]; simpa using hv, by simp only [List.length_append, List.length_cons, List.length_nil]; omega⟩)
 refine sx_exit ?_
 refine q_e (q_e (q_bx (q_n (k33 _ _ ?_))))
 refine sx_seq fun K51 k51 => ?_
 have hul2 : us.length = (dg m).length + 1 := by omega
 refine sx_region ?_
 refine mv rfl rfl (sp rfl (px_len rfl Try.underlying23 hs_v32.sv) ?_)
 refine av rfl rfl (wl_nil (q_n (k51 _ _ ?_)))
 refine sx_seq fun K52 k52 => sx_region ?_
 refine mv rfl rfl (sp rfl (px_len rfl Try.underlying23 hs_su.sv) ?_)
 refine mv rfl rfl (sp rfl (px_sub rfl rfl (by omega)) ?_)
 refine sx_make (c := (us.length - (dg (n * s.toNat)).length)) rfl xelt23 (look_int rfl (by omega)) (look_int rfl (by omega)) (by omega) (by unfold maxLen; omega) (fun s53 ws53 fs53 cs53 ls53 => ?_)
 have ns53 := fs53.made
 have zws53 := cs53.size
 refine av rfl rfl (wl_nil (q_n (k52 _ _ ?_)))
 refine sx_sub (Sub.c 8 rfl (.c 9 rfl (.c 10 rfl (.c 11 rfl (.c 12 rfl .nil))))) ?_
 refine sx_seq fun K54 k54 => ?_
 refine sx_seq fun K55 k55 => ?_
 have hrl : (List.replicate (us.length - (dg (n * s.toNat)).length) (0 : Int)).length = us.length - (dg (n * s.toNat)).length := List.length_replicate
 refine sx_region ?_
 refine mv rfl rfl (sp rfl (px_len rfl Try.underlying23 ns53.sv) ?_)
 refine sp rfl (px_sub rfl rfl (by omega)) ?_
 refine av rfl rfl (wl_nil (q_n (k55 _ _ ?_)))
 refine sx_block ?_
 have f57 := hs_su.ext cs53
 have f58 := hs_v32.ext cs53
 refine sx_loop (fun mm aa w' => ∃ (k : Nat) (U : List Int) (qs : List Int), Agr 97 [(8, .int .i64 s), (9, su), (10, v32), (11, .int .i64 (↑(dg (n * s.toNat)).length)), (12, s53), (13, .int .i64 (↑k - 1))] aa ∧ Chg ws22.heap.size ws53.heap.size ws53 w' ∧ Own w' gl gh su intT U.length 1 (U.map (Value.int .i64)) ∧ Own w' wl35.heap.size ws53.heap.size s53 intT qs.length 1 (qs.map (Value.int .i64)) ∧ Own w' ws28.heap.size w32.heap.size v32 intT ((dg (n * s.toNat)).length) 1 ((dg (n * s.toNat)).map (Value.int .i64)) ∧ (mm = k) ∧ (k ≤ ((dg m).length + 1 - (dg n).length)) ∧ (qs.length = ((dg m).length + 1 - (dg n).length)) ∧ (U.length = (dg m).length + 1) ∧ (Lm U) ∧ (Lm qs) ∧ (vl (U.drop k) < n * s.toNat) ∧ (m * s.toNat = vl U + Bs ^ k * (n * s.toNat * vl (qs.drop k)))) (_) (fun a ha => ⟨((dg m).length + 1 - (dg n).length), us, List.replicate (us.length - (dg (n * s.toNat)).length) 0, ha.sub (Sub.c 8 rfl (.c 9 rfl (.c 10 rfl (.c 11 (look_int (t := 11) rfl (by first | omega | (simp only [List.length_replicate]; omega) | simp)) (.c 12 rfl (.c 13 (look_int (t := 13) rfl (by first | omega | (simp only [List.length_replicate]; omega) | simp)) .nil)))))), Chg.refl _ _ _, f57, ns53, f58, rfl, by omega, by rw [List.length_replicate]; omega, by omega, by omega, Lm.replicate _, top_init hul2 rfl rfl (len_pos.2 hn0) (by omega) (by omega) hv, by rw [vl_drop_end (by rw [List.length_replicate]; omega)]; simpa using hv.symm⟩) ?_
 rintro mm aa wl56 ⟨k, U, qs, hAwl56, cwl56, hs_su, hs_s53, hs_v32, hm, hk, hql, hUl, hUm, hQm, htp, hV⟩
 refine (show cw Try.prog 97 _ _ _ wl56 from ?_) aa hAwl56
 clear hAwl56
 have zwl56 := cwl56.size
 refine sx_seq fun K59 k59 => ?_
 refine sx_seq fun K60 k60 => sx_region ?_
 refine mv rfl rfl (sp rfl (px_ge rfl rfl) ?_)
 refine wl_nil (q_n (k60 _ _ ?_))
 refine sx_condP rfl (fun h32 => ?_) (fun h32 => ?_)
 ·
  refine sx_skip ?_
  refine q_n (k59 _ _ ?_)
  refine sx_seq fun K61 k61 => ?_
  refine sx_block ?_
  have hw := win_of (j := k - 1) (n := (dg (n * s.toNat)).length) hUm (by omega) (lt_of_dg_len (Nat.le_refl _)) (by rw [Nat.sub_add_cancel (by omega)]; exact htp)
  refine sx_region ?_
  refine mv rfl rfl (mv rfl rfl (mv rfl rfl (mv rfl rfl (mv rfl rfl ?_))))
  refine mv rfl rfl (sp rfl (px_add rfl rfl (by omega)) ?_)
  refine sp rfl (px_add rfl rfl (by omega)) ?_
  obtain ⟨suf62, hw62, hb62⟩ := Own.win hs_su (a := (k - 1)) (b := (k - 1 + (dg (n * s.toNat)).length + 1)) (by omega) (by omega)
  refine sp rfl (px_sliceMid (l := (k - 1)) (h := (k - 1 + (dg (n * s.toNat)).length + 1)) rfl rfl rfl (by omega) (by omega) Try.underlying23 Try.sizeOf3 hs_su.sv (by omega) (by omega)) ?_
  refine mv rfl rfl (sx_call rfl rfl Try.call88 (c_divStep hw62 hs_v32.sv (by omega) (by rw [List.length_take, List.length_drop]; omega) (by omega) (Lm.take (Lm.drop hUm _) _) (Lm_dg _) (dg_getD_pos hpos rfl) (by rw [vl_dg, hw.1]; exact hw.2.1) (by rw [List.length_take, List.length_drop]; omega)) (fun v63 w63 p63 => ?_))
  obtain ⟨os63, rfl, ova_63, hs63, c63⟩ := p63
  have zw63 := c63.size
  have f64 := hb62 _ _ ova_63
  have hol := hs63.2.1
  rw [List.length_take, List.length_drop] at hol
  have hdl := hs63.1
  have hp := div_put (us := U) (qs := qs) (ys := os63) (n := (dg (n * s.toNat)).length) (V := n * s.toNat) (by omega) (by omega) (by omega) rfl hw.2.2 (by omega) (by rw [hs63.2.2, hw.1, vl_dg]) hV
  have hqd : vl ((U.drop (k - 1)).take (k - 1 + (dg (n * s.toNat)).length + 1 - (k - 1))) / vl (dg (n * s.toNat)) < 1000000000 := by rw [hw.1, vl_dg]; exact (Nat.div_lt_iff_lt_mul hpos).2 hw.2.1
  have hqn : (0 : Int) ≤ ((vl ((U.drop (k - 1)).take (k - 1 + (dg (n * s.toNat)).length + 1 - (k - 1))) / vl (dg (n * s.toNat)) : Nat) : Int) := Int.natCast_nonneg _
  have f65 := hs_s53.chg c63 (by omega)
  refine sp rfl (px_index1 (j := (k - 1)) rfl rfl (by omega) Try.underlying23 Try.sizeOf3 f65.sv (by omega)) ?_
  refine sx_storeO rfl rfl f65 (by first | omega | (simp only [List.length_map]; omega)) Try.sizeOf3 rfl (fun w66 sw66 fw66 cw66 => ?_)
  have zw66 := cw66.size
  have nw66 := fw66.set
  refine wl_nil ?_
  refine q_bn (q_n (k61 _ _ ?_))
  refine sx_sub (Sub.c 8 rfl (.c 9 rfl (.c 10 rfl (.c 11 rfl (.c 12 rfl (.c 13 rfl .nil)))))) ?_
  refine sx_region ?_
  refine mv rfl rfl (sp rfl (px_sub rfl rfl (by omega)) ?_)
  refine av rfl rfl (wl_nil ?_)
  have q67 := Chg.step (l := ws22.heap.size) (h := ws53.heap.size) cwl56 c63 (by omega)
  have q68 := Chg.step (l := ws22.heap.size) (h := ws53.heap.size) q67 cw66 (by omega)
  have f69 := f64.chg cw66 (by omega)
  have f71 := (hs_v32.chg c63 (by omega)).chg cw66 (by omega)
  exact fun a ha => ⟨_, by omega, (k - 1), (U.take (k - 1) ++ os63 ++ U.drop (k - 1 + (dg (n * s.toNat)).length + 1)), ((qs).set (k - 1) ((vl ((U.drop (k - 1)).take ((k - 1 + (dg (n * s.toNat)).length + 1) - (k - 1))) / vl (dg (n * s.toNat)) : Nat) : Int)), ha.sub (Sub.c 8 rfl (.c 9 rfl (.c 10 rfl (.c 11 rfl (.c 12 rfl (.c 13 (look_int (t := 13) rfl (by first | omega | (simp only [List.length_replicate]; omega) | simp)) .nil)))))), q68, (f69.mono (by omega) (by omega)), (nw66.mono (by omega) (by omega)), (f71.mono (by omega) (by omega)), rfl, by omega, by rw [List.length_set]; exact hql, by simp only [List.length_append, List.length_take, List.length_drop]; omega, ((hUm.take _).append hdl).append (Lm.drop hUm _), hQm.set _ (by omega) (by omega), by rw [hp.1]; exact Nat.mod_lt _ hpos, by rw [hw.1, vl_dg]; exact hp.2⟩
 refine sx_exit ?_
 refine q_e (q_e (q_bx (q_n (k54 _ _ ?_))))
 refine sx_seq fun K72 k72 => ?_
 have ek : k = 0 := by omega
 subst ek
 rw [List.drop_zero] at hV htp
 have hse := scaled_end (s := s.toNat) (by omega) hn0 hV htp
 have e1 : vl U / s.toNat = m % n := by rw [hse.2, Nat.mul_div_cancel _ (by omega)]
 refine sx_region ?_
 refine mv rfl rfl (sx_call rfl rfl Try.call79 (c_trim hs_su (by assumption) (by first | omega | (simp only [List.length_append, List.length_set, List.length_replicate, List.length_cons, List.length_nil] at *; omega))) (fun v73 w73 p73 => ?_))
 obtain ⟨s73, rfl, os_73, c73⟩ := p73
 have zw73 := c73.size
 refine mv rfl rfl (sx_call rfl rfl Try.call86 (c_natSmall os_73.sv (Nat.le_trans (dg_len_le (vl_lt hUm)) (by omega)) (by omega)) (fun v74 w74 p74 => ?_))
 obtain ⟨s74, rfl, os_74, c74⟩ := p74
 have zw74 := c74.size
 refine mv rfl rfl (sp rfl (px_ex2 rfl rfl) ?_)
 refine sp rfl (px_ex2 rfl rfl) ?_
 refine av rfl rfl (av rfl rfl (wl_nil (q_n (k72 _ _ ?_))))
 refine sx_sub (Sub.c 12 rfl (.c 14 rfl .nil)) ?_
 refine sx_seq fun K75 k75 => sx_region ?_
 refine mv rfl rfl ?_
 have f77 := (hs_s53.ext c73).ext c74
 refine sx_call rfl rfl Try.call79 (c_trim f77 (by assumption) (by first | omega | (simp only [List.length_append, List.length_set, List.length_replicate, List.length_cons, List.length_nil] at *; omega))) (fun v78 w78 p78 => ?_)
 obtain ⟨s78, rfl, os_78, c78⟩ := p78
 have zw78 := c78.size
 refine mv rfl rfl (av rfl rfl (av rfl rfl (wl_nil (q_n (k75 _ _ ?_)))))
 refine sx_retc ?_
 refine sx_ret2 Try.results64 rfl rfl ?_
 have r1 := os_78
 have f79 := os_74.ext c78
 have r2 := f79
 rw [hse.1] at r1
 rw [e1] at r2
 have q80 := Chg.step (l := 0) (h := 0) (Chg.zero (l := 0) (h := 0) ((((c4.t cs22).t c25).t cs28).t c32)) cwl35 (by omega)
 have q81 := Chg.step (l := 0) (h := 0) q80 cs53 (by omega)
 have q82 := Chg.step (l := 0) (h := 0) q81 cwl56 (by omega)
 have q83 := Chg.step (l := 0) (h := 0) q82 ((c73.t c74).t c78) (by omega)
 exact ⟨_, _, rfl, r1.mono (by omega) (by omega), r2.mono (by omega) (by omega), q83⟩

theorem c_natGcd {w : World} {va : Value} {lva uva : Nat} {m : Nat} {vb : Value} {lvb uvb : Nat} {n : Nat} (hva : Sl w lva uva va (dg m)) (hvb : Sl w lvb uvb vb (dg n)) (hbm : (dg m).length ≤ 400) (hbn : (dg n).length ≤ 400) :
  Ret Try.prog 62 [va, vb] w fun v w' => ∃ s, v = s ∧ OwnI w' w.heap.size w'.heap.size s intT (dg (Nat.gcd m n)) ∧ Chg 0 0 w w' := by
 have hva0 := hva.fit
 have hvb0 := hvb.fit
 refine sx_enter Try.func62 rfl Try.ntmps62 (nbl rfl) ?_
 refine sx_seq fun K1 k1 => sx_region ?_
 refine av rfl rfl (wl_nil (q_n (k1 _ _ ?_)))
 refine sx_seq fun K2 k2 => ?_
 refine sx_block ?_
 refine sx_loop (fun mm aa w' => ∃ (xa : Value) (xb : Value) (m2 : Nat) (n2 : Nat), Agr 20 [(0, xa), (1, xb)] aa ∧ Chg 0 0 w w' ∧ Sv w' 0 w'.heap.size xa ((dg m2).length) 1 ((dg m2).map (Value.int .i64)) ∧ Sv w' 0 w'.heap.size xb ((dg n2).length) 1 ((dg n2).map (Value.int .i64)) ∧ (mm = n2) ∧ (Nat.gcd m2 n2 = Nat.gcd m n) ∧ ((dg m2).length ≤ 400 ∧ (dg n2).length ≤ 400)) (_) (fun a ha => ⟨va, vb, m, n, ha.sub (Sub.c 0 rfl (.c 1 rfl .nil)), Chg.refl _ _ _, (hva0.mono (by omega) (by omega)), (hvb0.mono (by omega) (by omega)), rfl, rfl, by omega⟩) ?_
 rintro mm aa wl3 ⟨xa, xb, m2, n2, hAwl3, cwl3, hs_xa, hs_xb, hm, hg, hl2⟩
 refine (show cw Try.prog 20 _ _ _ wl3 from ?_) aa hAwl3
 clear hAwl3
 have zwl3 := cwl3.size
 refine sx_seq fun K4 k4 => ?_
 refine sx_seq fun K5 k5 => sx_region ?_
 refine mv rfl rfl (sp rfl (px_len rfl Try.underlying23 hs_xb) ?_)
 refine sp rfl (px_gt rfl rfl) ?_
 refine wl_nil (q_n (k5 _ _ ?_))
 refine sx_condP rfl (fun h91 => ?_) (fun h91 => ?_)
 ·
  have hn0 : 0 < n2 := len_pos.1 (by omega)
  refine sx_skip ?_
  refine q_n (k4 _ _ ?_)
  refine sx_block ?_
  refine sx_seq fun K6 k6 => sx_region ?_
  refine mv rfl rfl (mv rfl rfl (sx_call rfl rfl Try.call64 (c_natDiv hs_xa hs_xb (by omega) (by omega) (by omega)) (fun v7 w7 p7 => ?_)))
  obtain ⟨s7, t7, rfl, os_7, ot_7, c7⟩ := p7
  have zw7 := c7.size
  refine mv rfl rfl (sp rfl (px_ex2 rfl rfl) ?_)
  refine sp rfl (px_ex2 rfl rfl) ?_
  refine av rfl rfl (av rfl rfl (wl_nil (q_n (k6 _ _ ?_))))
  refine sx_region ?_
  refine mv rfl rfl (mv rfl rfl (av rfl rfl (av rfl rfl (wl_nil ?_))))
  have f8 := hs_xb.ext c7
  have hml := Nat.mod_lt m2 hn0
  have hll := len_mod (m := m2) hn0
  exact q_bn (fun a ha => ⟨_, by omega, xb, t7, n2, (m2 % n2), ha.sub (Sub.c 0 rfl (.c 1 rfl .nil)), (cwl3.t c7), (f8.mono (by omega) (by omega)), (ot_7.sv.mono (by omega) (by omega)), rfl, gcd_next.trans hg, by omega⟩)
 refine sx_exit ?_
 refine q_e (q_e (q_bx (q_n (k2 _ _ ?_))))
 refine sx_seq fun K9 k9 => sx_region ?_
 refine mv rfl rfl (sx_call rfl rfl Try.call63 (c_natCopy hs_xa (by omega)) (fun v10 w10 p10 => ?_))
 obtain ⟨s10, rfl, os_10, c10⟩ := p10
 have zw10 := c10.size
 refine av rfl rfl (wl_nil (q_n (k9 _ _ ?_)))
 refine sx_retc ?_
 refine sx_ret1 Try.results62 rfl ?_
 have e0 : n2 = 0 := len_zero.1 (by omega)
 subst e0
 rw [Nat.gcd_zero_right] at hg
 rw [← hg]
 exact ⟨_, rfl, (Own.mono os_10 (by omega) (by omega)), (cwl3.t c10)⟩

theorem c_iRatOk {w : World} {n1 : Bool} {v1 : Value} {lv1 uv1 : Nat} {z1 : List Int} {d1 : Value} {ld1 ud1 : Nat} {y1 : List Int} (hv1 : Sl w lv1 uv1 v1 (z1)) (hd1 : Sl w ld1 ud1 d1 (y1)) (h63 : z1.length ≤ 4611686018427387904 ∧ y1.length ≤ 4611686018427387904) :
  Ret Try.prog 31 [.agg #[.bool n1, v1, d1]] w fun v w' => v = .bool (decide (ROk n1 z1 y1)) ∧ Chg 0 0 w w' := by
 have hv10 := hv1.fit
 have hd10 := hd1.fit
 refine sx_enter Try.func31 rfl Try.ntmps31 (nbl rfl) ?_
 refine sx_seq fun K1 k1 => sx_region ?_
 refine sx_box [.bool n1, v1, d1] rfl rfl rfl (fun b2 w3 eb2 sb2 fb2 cb2 => ?_)
 have zw3 := cb2.size
 refine av rfl rfl (wl_nil (q_n (k1 _ _ ?_)))
 refine sx_seq fun K4 k4 => ?_
 refine sx_seq fun K5 k5 => sx_region ?_
 refine sp rfl (px_field rfl xfld27x0) ?_
 refine sp rfl (px_load rfl (fb2.loadA (vs := [.bool n1, v1]) (look_lit rfl) Try.isAgg25 Try.sizeOf25)) ?_
 have f6 := hv10.ext cb2
 refine sx_call rfl rfl Try.call38 (c_iIntOk f6 (by omega)) (fun v7 w7 p7 => ?_)
 obtain ⟨rfl, c7⟩ := p7
 have zw7 := c7.size
 refine sp rfl (px_notP rfl) ?_
 refine mv rfl rfl ?_
 refine sx_tmpP (t := 8) rfl (fun h14 => ?_) (fun h14 => ?_)
 ·
  refine sx_guardF rfl rfl rfl rfl rfl rfl ?_
  refine sx_guardF rfl rfl rfl rfl rfl rfl ?_
  refine sx_guardF rfl rfl rfl rfl rfl rfl ?_
  refine sx_guardF rfl rfl rfl rfl rfl rfl ?_
  refine sp rfl (px_pick rfl rfl) ?_
  refine mv rfl rfl ?_
  refine sx_guardF rfl rfl rfl rfl rfl rfl ?_
  refine sx_guardF rfl rfl rfl rfl rfl rfl ?_
  refine sx_guardF rfl rfl rfl rfl rfl rfl ?_
  refine sx_guardF rfl rfl rfl rfl rfl rfl ?_
  refine sp rfl (px_pick rfl rfl) ?_
  refine mv rfl rfl ?_
  refine sx_guardF rfl rfl rfl rfl rfl rfl ?_
  refine sx_guardF rfl rfl rfl rfl rfl rfl ?_
  refine sx_guardF rfl rfl rfl rfl rfl rfl ?_
  refine sx_guardF rfl rfl rfl rfl rfl rfl ?_
  refine sp rfl (px_pick rfl rfl) ?_
  refine mv rfl rfl ?_
  refine sx_guardF rfl rfl rfl rfl rfl rfl ?_
  refine sx_guardF rfl rfl rfl rfl rfl rfl ?_
  refine sx_guardF rfl rfl rfl rfl rfl rfl ?_
  refine sx_guardF rfl rfl rfl rfl rfl rfl ?_
  refine sx_guardF rfl rfl rfl rfl rfl rfl ?_
  refine sp rfl (px_pick rfl rfl) ?_
  refine wl_nil (q_n (k5 _ _ ?_))
  refine sx_sub (Sub.c 1 rfl (.c 2 rfl (.c 32 rfl .nil))) ?_
  refine sx_condT rfl ?_
  refine sx_seq fun K8 k8 => sx_region ?_
  refine av rfl rfl (wl_nil (q_n (k8 _ _ ?_)))
  refine sx_retc ?_
  refine q_r (sx_ret1 Try.results31 rfl ?_)
  exact ⟨(bFalse (by grind [ROk])), (cb2.t c7)⟩
 refine sx_guardT rfl rfl rfl ?_
 refine sp rfl (px_field rfl xfld27x1) ?_
 refine sx_guardT rfl rfl rfl ?_
 have f9 := fb2.ext c7
 refine sp rfl (px_load rfl (f9.load1 rfl Try.isAgg23)) ?_
 refine sx_guardT rfl rfl rfl ?_
 have f10 := hd10.ext cb2
 have f11 := f10.ext c7
 refine sx_call rfl rfl Try.call61 (c_iNatOk f11 (by omega)) (fun v12 w12 p12 => ?_)
 obtain ⟨rfl, c12⟩ := p12
 have zw12 := c12.size
 refine sx_guardT rfl rfl rfl ?_
 refine sp rfl (px_notP rfl) ?_
 refine sp rfl (px_pick rfl rfl) ?_
 refine mv rfl rfl ?_
 refine sx_tmpP (t := 14) rfl (fun h14x1 => ?_) (fun h14x1 => ?_)
 ·
  refine sx_guardF rfl rfl rfl rfl rfl rfl ?_
  refine sx_guardF rfl rfl rfl rfl rfl rfl ?_
  refine sx_guardF rfl rfl rfl rfl rfl rfl ?_
  refine sx_guardF rfl rfl rfl rfl rfl rfl ?_
  refine sp rfl (px_pick rfl rfl) ?_
  refine mv rfl rfl ?_
  refine sx_guardF rfl rfl rfl rfl rfl rfl ?_
  refine sx_guardF rfl rfl rfl rfl rfl rfl ?_
  refine sx_guardF rfl rfl rfl rfl rfl rfl ?_
  refine sx_guardF rfl rfl rfl rfl rfl rfl ?_
  refine sp rfl (px_pick rfl rfl) ?_
  refine mv rfl rfl ?_
  refine sx_guardF rfl rfl rfl rfl rfl rfl ?_
  refine sx_guardF rfl rfl rfl rfl rfl rfl ?_
  refine sx_guardF rfl rfl rfl rfl rfl rfl ?_
  refine sx_guardF rfl rfl rfl rfl rfl rfl ?_
  refine sx_guardF rfl rfl rfl rfl rfl rfl ?_
  refine sp rfl (px_pick rfl rfl) ?_
  refine wl_nil (q_n (k5 _ _ ?_))
  refine sx_sub (Sub.c 1 rfl (.c 2 rfl (.c 32 rfl .nil))) ?_
  refine sx_condT rfl ?_
  refine sx_seq fun K13 k13 => sx_region ?_
  refine av rfl rfl (wl_nil (q_n (k13 _ _ ?_)))
  refine sx_retc ?_
  refine q_r (sx_ret1 Try.results31 rfl ?_)
  exact ⟨(bFalse (by grind [ROk])), ((cb2.t c7).t c12)⟩
 refine sx_guardT rfl rfl rfl ?_
 refine sp rfl (px_field rfl xfld27x1) ?_
 refine sx_guardT rfl rfl rfl ?_
 have f14 := f9.ext c12
 refine sp rfl (px_load rfl (f14.load1 rfl Try.isAgg23)) ?_
 refine sx_guardT rfl rfl rfl ?_
 have f15 := f11.ext c12
 refine sp rfl (px_len rfl Try.underlying23 f15) ?_
 refine sx_guardT rfl rfl rfl ?_
 refine sp rfl (px_eq rfl rfl) ?_
 refine sp rfl (px_pick rfl rfl) ?_
 refine mv rfl rfl ?_
 refine sx_tmpP (t := 20) rfl (fun h14x2 => ?_) (fun h14x2 => ?_)
 ·
  refine sx_guardF rfl rfl rfl rfl rfl rfl ?_
  refine sx_guardF rfl rfl rfl rfl rfl rfl ?_
  refine sx_guardF rfl rfl rfl rfl rfl rfl ?_
  refine sx_guardF rfl rfl rfl rfl rfl rfl ?_
  refine sp rfl (px_pick rfl rfl) ?_
  refine mv rfl rfl ?_
  refine sx_guardF rfl rfl rfl rfl rfl rfl ?_
  refine sx_guardF rfl rfl rfl rfl rfl rfl ?_
  refine sx_guardF rfl rfl rfl rfl rfl rfl ?_
  refine sx_guardF rfl rfl rfl rfl rfl rfl ?_
  refine sx_guardF rfl rfl rfl rfl rfl rfl ?_
  refine sp rfl (px_pick rfl rfl) ?_
  refine wl_nil (q_n (k5 _ _ ?_))
  refine sx_sub (Sub.c 1 rfl (.c 2 rfl (.c 32 rfl .nil))) ?_
  refine sx_condT rfl ?_
  refine sx_seq fun K16 k16 => sx_region ?_
  refine av rfl rfl (wl_nil (q_n (k16 _ _ ?_)))
  refine sx_retc ?_
  refine q_r (sx_ret1 Try.results31 rfl ?_)
  exact ⟨(bFalse (by grind [ROk])), ((cb2.t c7).t c12)⟩
 refine sx_guardT rfl rfl rfl ?_
 refine sp rfl (px_field rfl xfld27x1) ?_
 refine sx_guardT rfl rfl rfl ?_
 refine sp rfl (px_load rfl (f14.load1 rfl Try.isAgg23)) ?_
 refine sx_guardT rfl rfl rfl ?_
 refine sp rfl (px_len rfl Try.underlying23 f15) ?_
 refine sx_guardT rfl rfl rfl ?_
 refine sp rfl (px_gt rfl rfl) ?_
 refine sp rfl (px_pick rfl rfl) ?_
 refine mv rfl rfl ?_
 refine sx_tmpP (t := 26) rfl (fun h14x3 => ?_) (fun h14x3 => ?_)
 ·
  refine sx_guardF rfl rfl rfl rfl rfl rfl ?_
  refine sx_guardF rfl rfl rfl rfl rfl rfl ?_
  refine sx_guardF rfl rfl rfl rfl rfl rfl ?_
  refine sx_guardF rfl rfl rfl rfl rfl rfl ?_
  refine sx_guardF rfl rfl rfl rfl rfl rfl ?_
  refine sp rfl (px_pick rfl rfl) ?_
  refine wl_nil (q_n (k5 _ _ ?_))
  refine sx_sub (Sub.c 1 rfl (.c 2 rfl (.c 32 rfl .nil))) ?_
  refine sx_condT rfl ?_
  refine sx_seq fun K17 k17 => sx_region ?_
  refine av rfl rfl (wl_nil (q_n (k17 _ _ ?_)))
  refine sx_retc ?_
  refine q_r (sx_ret1 Try.results31 rfl ?_)
  exact ⟨(bFalse (by grind [ROk])), ((cb2.t c7).t c12)⟩
 refine sx_guardT rfl rfl rfl ?_
 refine sp rfl (px_field rfl xfld27x0) ?_
 refine sx_guardT rfl rfl rfl ?_
 refine sp rfl (px_field rfl xfld25x1) ?_
 refine sx_guardT rfl rfl rfl ?_
 refine sp rfl (px_load rfl (f14.load1 rfl Try.isAgg23)) ?_
 refine sx_guardT rfl rfl rfl ?_
 have f19 := (f6.ext c7).ext c12
 refine sp rfl (px_len rfl Try.underlying23 f19) ?_
 refine sx_guardT rfl rfl rfl ?_
 refine sp rfl (px_gt rfl rfl) ?_
 refine sp rfl (px_pick rfl rfl) ?_
 refine wl_nil (q_n (k5 _ _ ?_))
 refine sx_sub (Sub.c 1 rfl (.c 2 rfl (.c 32 rfl .nil))) ?_
 refine sx_condP rfl (fun h14x4 => ?_) (fun h14x4 => ?_)
 ·
  refine sx_seq fun K20 k20 => sx_region ?_
  refine av rfl rfl (wl_nil (q_n (k20 _ _ ?_)))
  refine sx_retc ?_
  refine q_r (sx_ret1 Try.results31 rfl ?_)
  exact ⟨(bFalse (by grind [ROk])), ((cb2.t c7).t c12)⟩
 have hR1 := Decidable.not_not.1 h14
 have hR2 := Decidable.not_not.1 h14x1
 obtain ⟨x1, rfl, rfl, hx1⟩ := hR1.int
 obtain ⟨e1, rfl, he1⟩ := hR2.dg
 have he0 : 0 < e1 := len_pos.1 (by omega)
 have hk : ROk (ng x1) (dg x1.natAbs) (dg e1) ↔ dg (Nat.gcd x1.natAbs e1) = [1] := by rw [ROk_iff, dg_is_one]; exact ⟨fun h => h.2.2.2, fun h => ⟨he0, by omega, by omega, h⟩⟩
 refine sx_skip ?_
 refine q_n (k4 _ _ ?_)
 refine sx_seq fun K21 k21 => sx_region ?_
 refine sp rfl (px_field rfl xfld27x0) ?_
 refine sp rfl (px_field rfl xfld25x1) ?_
 refine sp rfl (px_load rfl (f14.load1 rfl Try.isAgg23)) ?_
 refine sp rfl (px_field rfl xfld27x1) ?_
 refine sp rfl (px_load rfl (f14.load1 rfl Try.isAgg23)) ?_
 refine sx_call rfl rfl Try.call62 (c_natGcd f19 f15 (by omega) (by omega)) (fun v22 w22 p22 => ?_)
 obtain ⟨s22, rfl, os_22, c22⟩ := p22
 have zw22 := c22.size
 refine av rfl rfl (wl_nil (q_n (k21 _ _ ?_)))
 refine sx_seq fun K23 k23 => sx_region ?_
 refine mv rfl rfl (sp rfl (px_len rfl Try.underlying23 os_22.sv) ?_)
 refine sp rfl (px_eq rfl rfl) ?_
 refine mv rfl rfl ?_
 refine sx_tmpP (t := 42) rfl (fun h18 => ?_) (fun h18 => ?_)
 ·
  refine sx_guardT rfl rfl rfl ?_
  refine mv rfl rfl ?_
  refine sx_guardT rfl rfl rfl ?_
  refine sp rfl (px_index1 (j := 0) rfl rfl (by omega) Try.underlying23 Try.sizeOf3 os_22.sv (by omega)) ?_
  refine sx_guardT rfl rfl rfl ?_
  refine sp rfl (px_load rfl (os_22.sv.load1 (at_int (by omega)) Try.isAgg3)) ?_
  refine sx_guardT rfl rfl rfl ?_
  refine sp rfl (px_eq rfl rfl) ?_
  refine sp rfl (px_pick rfl rfl) ?_
  refine av rfl rfl (wl_nil (q_n (k23 _ _ ?_)))
  refine sx_sub (Sub.c 2 rfl .nil) ?_
  refine sx_retc ?_
  refine sx_ret1 Try.results31 rfl ?_
  rw [one_iff] at hk
  exact ⟨(by first | exact bFalse (fun h => by have := hk.1 h; omega) | exact bIff ⟨fun h => hk.2 ⟨by omega, h⟩, fun h => (hk.1 h).2⟩), (((cb2.t c7).t c12).t c22)⟩
 refine sx_guardF rfl rfl rfl rfl rfl rfl ?_
 refine sx_guardF rfl rfl rfl rfl rfl rfl ?_
 refine sx_guardF rfl rfl rfl rfl rfl rfl ?_
 refine sx_guardF rfl rfl rfl rfl rfl rfl ?_
 refine sp rfl (px_pick rfl rfl) ?_
 refine av rfl rfl (wl_nil (q_n (k23 _ _ ?_)))
 refine sx_sub (Sub.c 2 rfl .nil) ?_
 refine sx_retc ?_
 refine sx_ret1 Try.results31 rfl ?_
 rw [one_iff] at hk
 exact ⟨(by first | exact bFalse (fun h => by have := hk.1 h; omega) | exact bIff ⟨fun h => hk.2 ⟨by omega, h⟩, fun h => (hk.1 h).2⟩), (((cb2.t c7).t c12).t c22)⟩

theorem c_isMode {w : World} {m : Int} :
  Ret Try.prog 33 [.int .i64 m] w fun v w' => v = .bool (decide (0 ≤ m ∧ m ≤ 6)) ∧ Chg 0 0 w w' := by
 refine sx_enter Try.func33 rfl Try.ntmps33 (nbl rfl) ?_
 refine sx_seq fun K1 k1 => sx_region ?_
 refine av rfl rfl (wl_nil (q_n (k1 _ _ ?_)))
 refine sx_seq fun K2 k2 => sx_region ?_
 refine mv rfl rfl (sp rfl (px_ge rfl rfl) ?_)
 refine mv rfl rfl ?_
 refine sx_tmpP (t := 5) rfl (fun h34 => ?_) (fun h34 => ?_)
 ·
  refine sx_guardT rfl rfl rfl ?_
  refine mv rfl rfl ?_
  refine sx_guardT rfl rfl rfl ?_
  refine sp rfl (px_le rfl rfl) ?_
  refine sp rfl (px_pick rfl rfl) ?_
  refine av rfl rfl (wl_nil (q_n (k2 _ _ ?_)))
  refine sx_retc ?_
  refine sx_ret1 Try.results33 rfl ?_
  exact ⟨(by first | exact bTrue (by grind) | exact bFalse (by grind) | exact bIff (by grind)), (Chg.refl 0 0 _)⟩
 refine sx_guardF rfl rfl rfl rfl rfl rfl ?_
 refine sx_guardF rfl rfl rfl rfl rfl rfl ?_
 refine sp rfl (px_pick rfl rfl) ?_
 refine av rfl rfl (wl_nil (q_n (k2 _ _ ?_)))
 refine sx_retc ?_
 refine sx_ret1 Try.results33 rfl ?_
 exact ⟨(by first | exact bTrue (by grind) | exact bFalse (by grind) | exact bIff (by grind)), (Chg.refl 0 0 _)⟩

theorem c_rm1 {w : World} {n : Bool} {c : Int} {o : Bool} :
  Ret Try.prog 69 [.bool n, .int .i64 c, .bool o] w fun v w' => v = .bool (awayB 0 n c o) ∧ Chg 0 0 w w' := by
 refine sx_enter Try.func69 rfl Try.ntmps69 (nbl rfl) ?_
 refine sx_seq fun K1 k1 => sx_region ?_
 refine av rfl rfl (wl_nil (q_n (k1 _ _ ?_)))
 refine sx_seq fun K2 k2 => sx_region ?_
 refine av rfl rfl (wl_nil (q_n (k2 _ _ ?_)))
 refine sx_retc ?_
 refine sx_ret1 Try.results69 rfl ?_
 exact ⟨(by first | rfl | (simp_all [awayB]; done) | grind [awayB]), (Chg.refl 0 0 _)⟩

theorem c_rm2 {w : World} {n : Bool} {c : Int} {o : Bool} :
  Ret Try.prog 70 [.bool n, .int .i64 c, .bool o] w fun v w' => v = .bool (awayB 1 n c o) ∧ Chg 0 0 w w' := by
 refine sx_enter Try.func70 rfl Try.ntmps70 (nbl rfl) ?_
 refine sx_seq fun K1 k1 => sx_region ?_
 refine av rfl rfl (wl_nil (q_n (k1 _ _ ?_)))
 refine sx_seq fun K2 k2 => sx_region ?_
 refine av rfl rfl (wl_nil (q_n (k2 _ _ ?_)))
 refine sx_retc ?_
 refine sx_ret1 Try.results70 rfl ?_
 exact ⟨(by first | rfl | (simp_all [awayB]; done) | grind [awayB]), (Chg.refl 0 0 _)⟩

theorem c_rm3 {w : World} {n : Bool} {c : Int} {o : Bool} :
  Ret Try.prog 71 [.bool n, .int .i64 c, .bool o] w fun v w' => v = .bool (awayB 2 n c o) ∧ Chg 0 0 w w' := by
 refine sx_enter Try.func71 rfl Try.ntmps71 (nbl rfl) ?_
 refine sx_seq fun K1 k1 => sx_region ?_
 refine av rfl rfl (wl_nil (q_n (k1 _ _ ?_)))
 refine sx_seq fun K2 k2 => sx_region ?_
 refine mv rfl rfl (av rfl rfl (wl_nil (q_n (k2 _ _ ?_))))
 refine sx_retc ?_
 refine sx_ret1 Try.results71 rfl ?_
 exact ⟨(by first | rfl | (simp_all [awayB]; done) | grind [awayB]), (Chg.refl 0 0 _)⟩

theorem c_rm4 {w : World} {n : Bool} {c : Int} {o : Bool} :
  Ret Try.prog 72 [.bool n, .int .i64 c, .bool o] w fun v w' => v = .bool (awayB 3 n c o) ∧ Chg 0 0 w w' := by
 refine sx_enter Try.func72 rfl Try.ntmps72 (nbl rfl) ?_
 refine sx_seq fun K1 k1 => sx_region ?_
 refine av rfl rfl (wl_nil (q_n (k1 _ _ ?_)))
 refine sx_seq fun K2 k2 => sx_region ?_
 refine mv rfl rfl (sp rfl (px_not rfl) ?_)
 refine av rfl rfl (wl_nil (q_n (k2 _ _ ?_)))
 refine sx_retc ?_
 refine sx_ret1 Try.results72 rfl ?_
 exact ⟨(by first | rfl | (simp_all [awayB]; done) | grind [awayB]), (Chg.refl 0 0 _)⟩

theorem c_rm5 {w : World} {n : Bool} {c : Int} {o : Bool} :
  Ret Try.prog 73 [.bool n, .int .i64 c, .bool o] w fun v w' => v = .bool (awayB 4 n c o) ∧ Chg 0 0 w w' := by
 refine sx_enter Try.func73 rfl Try.ntmps73 (nbl rfl) ?_
 refine sx_seq fun K1 k1 => sx_region ?_
 refine av rfl rfl (wl_nil (q_n (k1 _ _ ?_)))
 refine sx_seq fun K2 k2 => sx_region ?_
 refine mv rfl rfl (sp rfl (px_gt rfl rfl) ?_)
 refine av rfl rfl (wl_nil (q_n (k2 _ _ ?_)))
 refine sx_retc ?_
 refine sx_ret1 Try.results73 rfl ?_
 exact ⟨(by first | rfl | (simp_all [awayB]; done) | grind [awayB]), (Chg.refl 0 0 _)⟩

theorem c_rm6 {w : World} {n : Bool} {c : Int} {o : Bool} :
  Ret Try.prog 74 [.bool n, .int .i64 c, .bool o] w fun v w' => v = .bool (awayB 5 n c o) ∧ Chg 0 0 w w' := by
 refine sx_enter Try.func74 rfl Try.ntmps74 (nbl rfl) ?_
 refine sx_seq fun K1 k1 => sx_region ?_
 refine av rfl rfl (wl_nil (q_n (k1 _ _ ?_)))
 refine sx_seq fun K2 k2 => sx_region ?_
 refine mv rfl rfl (sp rfl (px_ge rfl rfl) ?_)
 refine av rfl rfl (wl_nil (q_n (k2 _ _ ?_)))
 refine sx_retc ?_
 refine sx_ret1 Try.results74 rfl ?_
 exact ⟨(by first | rfl | (simp_all [awayB]; done) | grind [awayB]), (Chg.refl 0 0 _)⟩

theorem c_rm7 {w : World} {n : Bool} {c : Int} {o : Bool} :
  Ret Try.prog 75 [.bool n, .int .i64 c, .bool o] w fun v w' => v = .bool (awayB 6 n c o) ∧ Chg 0 0 w w' := by
 refine sx_enter Try.func75 rfl Try.ntmps75 (nbl rfl) ?_
 refine sx_seq fun K1 k1 => sx_region ?_
 refine av rfl rfl (wl_nil (q_n (k1 _ _ ?_)))
 refine sx_seq fun K2 k2 => sx_region ?_
 refine mv rfl rfl (sp rfl (px_gt rfl rfl) ?_)
 refine mv rfl rfl ?_
 refine sx_tmpP (t := 9) rfl (fun h29 => ?_) (fun h29 => ?_)
 ·
  refine sx_guardF rfl rfl rfl rfl rfl rfl ?_
  refine sx_guardF rfl rfl rfl rfl rfl rfl ?_
  refine sx_guardF rfl rfl rfl rfl rfl rfl ?_
  refine sx_guardFU rfl rfl rfl rfl rfl ?_
  refine sx_guardF rfl rfl rfl rfl rfl rfl ?_
  refine sp rfl (px_pick rfl rfl) ?_
  refine av rfl rfl (wl_nil (q_n (k2 _ _ ?_)))
  refine sx_retc ?_
  refine sx_ret1 Try.results75 rfl ?_
  exact ⟨(by first | rfl | (simp_all [awayB]; done) | grind [awayB]), (Chg.refl 0 0 _)⟩
 refine sx_guardT rfl rfl rfl ?_
 refine mv rfl rfl ?_
 refine sx_guardT rfl rfl rfl ?_
 refine sp rfl (px_eq rfl rfl) ?_
 refine sx_guardT rfl rfl rfl ?_
 refine mv rfl rfl ?_
 refine sx_tmpP (t := 12) rfl (fun h29x1 => ?_) (fun h29x1 => ?_)
 ·
  refine sx_guardT rfl rfl rfl ?_
  refine mv rfl rfl ?_
  refine sx_guardT rfl rfl rfl ?_
  refine sp rfl (px_pick rfl rfl) ?_
  refine sp rfl (px_pick rfl rfl) ?_
  refine av rfl rfl (wl_nil (q_n (k2 _ _ ?_)))
  refine sx_retc ?_
  refine sx_ret1 Try.results75 rfl ?_
  exact ⟨(by first | rfl | (simp_all [awayB]; done) | grind [awayB]), (Chg.refl 0 0 _)⟩
 refine sx_guardF rfl rfl rfl rfl rfl rfl ?_
 refine sx_guardT rfl rfl rfl ?_
 refine sp rfl (px_pick rfl rfl) ?_
 refine sp rfl (px_pick rfl rfl) ?_
 refine av rfl rfl (wl_nil (q_n (k2 _ _ ?_)))
 refine sx_retc ?_
 refine sx_ret1 Try.results75 rfl ?_
 exact ⟨(by first | rfl | (simp_all [awayB]; done) | grind [awayB]), (Chg.refl 0 0 _)⟩

theorem c_away {w : World} {n o : Bool} {c m : Int} (hm : 0 ≤ m ∧ m ≤ 6) :
  Ret Try.prog (rmF m) [.bool n, .int .i64 c, .bool o] w fun v w' => v = .bool (awayB m n c o) ∧ Chg 0 0 w w' := by
 rcases rm_cases hm with h | h | h | h | h | h | h
 · subst h; exact c_rm1
 · subst h; exact c_rm2
 · subst h; exact c_rm3
 · subst h; exact c_rm4
 · subst h; exact c_rm5
 · subst h; exact c_rm6
 · subst h; exact c_rm7

theorem c_roundModes {w : World} :
  Ret Try.prog 35 [] w fun v w' => v = .agg #[.string ⟨#[100, 111, 119, 110]⟩, .func (.func 69) #[] #[], .string ⟨#[117, 112]⟩, .func (.func 70) #[] #[], .string ⟨#[102, 108, 111, 111, 114]⟩, .func (.func 71) #[] #[], .string ⟨#[99, 101, 105, 108]⟩, .func (.func 72) #[] #[], .string ⟨#[104, 97, 108, 102, 100, 111, 119, 110]⟩, .func (.func 73) #[] #[], .string ⟨#[104, 97, 108, 102, 117, 112]⟩, .func (.func 74) #[] #[], .string ⟨#[104, 97, 108, 102, 101, 118, 101, 110]⟩, .func (.func 75) #[] #[]] ∧ Chg 0 0 w w' := by
 refine sx_enter Try.func35 rfl Try.ntmps35 (nbl rfl) ?_
 refine sx_seq fun K1 k1 => sx_region ?_
 refine sx_alloc [.string (⟨#[]⟩), .nilFunc, .string (⟨#[]⟩), .nilFunc, .string (⟨#[]⟩), .nilFunc, .string (⟨#[]⟩), .nilFunc, .string (⟨#[]⟩), .nilFunc, .string (⟨#[]⟩), .nilFunc, .string (⟨#[]⟩), .nilFunc] rfl Try.zeroValue63 rfl (fun b2 w3 eb2 sb2 fb2 cb2 => ?_)
 have zw3 := cb2.size
 refine wl_nil (q_n (k1 _ _ ?_))
 refine sx_seq fun K4 k4 => sx_region ?_
 refine sp rfl (px_build rfl (xbld62x0x1 rfl rfl _)) ?_
 refine sp rfl (px_build rfl (xbld62x0x1 rfl rfl _)) ?_
 refine sp rfl (px_build rfl (xbld62x0x1 rfl rfl _)) ?_
 refine sp rfl (px_build rfl (xbld62x0x1 rfl rfl _)) ?_
 refine sp rfl (px_build rfl (xbld62x0x1 rfl rfl _)) ?_
 refine sp rfl (px_build rfl (xbld62x0x1 rfl rfl _)) ?_
 refine sp rfl (px_build rfl (xbld62x0x1 rfl rfl _)) ?_
 refine sp rfl (px_build rfl (xbld63x0x1x2x3x4x5x6 _)) ?_
 refine sx_store (vs := [.string (⟨#[100, 111, 119, 110]⟩), .func (.func 69) #[] #[], .string (⟨#[117, 112]⟩), .func (.func 70) #[] #[], .string (⟨#[102, 108, 111, 111, 114]⟩), .func (.func 71) #[] #[], .string (⟨#[99, 101, 105, 108]⟩), .func (.func 72) #[] #[], .string (⟨#[104, 97, 108, 102, 100, 111, 119, 110]⟩), .func (.func 73) #[] #[], .string (⟨#[104, 97, 108, 102, 117, 112]⟩), .func (.func 74) #[] #[], .string (⟨#[104, 97, 108, 102, 101, 118, 101, 110]⟩), .func (.func 75) #[] #[]]) rfl rfl fb2 rfl Try.sizeOf63 (nbl rfl) (one_cons rfl (one_cons rfl (one_cons rfl (one_cons rfl (one_cons rfl (one_cons rfl (one_cons rfl (one_cons rfl (one_cons rfl (one_cons rfl (one_cons rfl (o3 rfl rfl rfl)))))))))))) (fun w5 sw5 fw5 cw5 => ?_)
 have zw5 := cw5.size
 have gw5 : Blk w5 b2 [.string (⟨#[100, 111, 119, 110]⟩), .func (.func 69) #[] #[], .string (⟨#[117, 112]⟩), .func (.func 70) #[] #[], .string (⟨#[102, 108, 111, 111, 114]⟩), .func (.func 71) #[] #[], .string (⟨#[99, 101, 105, 108]⟩), .func (.func 72) #[] #[], .string (⟨#[104, 97, 108, 102, 100, 111, 119, 110]⟩), .func (.func 73) #[] #[], .string (⟨#[104, 97, 108, 102, 117, 112]⟩), .func (.func 74) #[] #[], .string (⟨#[104, 97, 108, 102, 101, 118, 101, 110]⟩), .func (.func 75) #[] #[]] 63 := fw5
 refine wl_nil (q_n (k4 _ _ ?_))
 refine sx_retc ?_
 refine sx_ret1 Try.results35 ⟨_, rfl, gw5.loadA (vs := [.string (⟨#[100, 111, 119, 110]⟩), .func (.func 69) #[] #[], .string (⟨#[117, 112]⟩), .func (.func 70) #[] #[], .string (⟨#[102, 108, 111, 111, 114]⟩), .func (.func 71) #[] #[], .string (⟨#[99, 101, 105, 108]⟩), .func (.func 72) #[] #[], .string (⟨#[104, 97, 108, 102, 100, 111, 119, 110]⟩), .func (.func 73) #[] #[], .string (⟨#[104, 97, 108, 102, 117, 112]⟩), .func (.func 74) #[] #[], .string (⟨#[104, 97, 108, 102, 101, 118, 101, 110]⟩), .func (.func 75) #[] #[]]) (look_lit rfl) Try.isAgg63 Try.sizeOf63⟩ ?_
 have q6 := Chg.step (l := 0) (h := 0) (Chg.zero (l := 0) (h := 0) cb2) cw5 (by omega)
 exact ⟨rfl, q6⟩

theorem c_natAdd {w : World} {va : Value} {lva uva : Nat} {m : Nat} {vb : Value} {lvb uvb : Nat} {n : Nat} (hva : Sl w lva uva va (dg m)) (hvb : Sl w lvb uvb vb (dg n)) (hbm : (dg m).length ≤ 1000) (hbn : (dg n).length ≤ 1000) :
  Ret Try.prog 66 [va, vb] w fun v w' => ∃ s, v = s ∧ OwnI w' w.heap.size w'.heap.size s intT (dg (m + n)) ∧ Chg 0 0 w w' := by
 have hva0 := hva.fit
 have hvb0 := hvb.fit
 refine sx_enter Try.func66 rfl Try.ntmps66 (nbl rfl) ?_
 refine sx_seq fun K1 k1 => sx_region ?_
 refine av rfl rfl (wl_nil (q_n (k1 _ _ ?_)))
 refine sx_seq fun K2 k2 => sx_region ?_
 refine mv rfl rfl (sp rfl (px_len rfl Try.underlying23 hva0) ?_)
 refine mv rfl rfl (sp rfl (px_len rfl Try.underlying23 hvb0) ?_)
 refine sp rfl (px_max rfl rfl) ?_
 refine sp rfl (px_add rfl rfl (by omega)) ?_
 refine sx_make0 (c := max (dg m).length (dg n).length + 1) rfl xelt23 rfl (look_int rfl (by omega)) (by omega) (by unfold maxLen; omega) (fun s3 ws3 fs3 cs3 ls3 => ?_)
 have zws3 := cs3.size
 refine av rfl rfl (wl_nil (q_n (k2 _ _ ?_)))
 refine sx_seq fun K4 k4 => sx_region ?_
 refine av rfl rfl (wl_nil (q_n (k4 _ _ ?_)))
 refine sx_seq fun K5 k5 => ?_
 refine sx_seq fun K6 k6 => sx_region ?_
 refine av rfl rfl (wl_nil (q_n (k6 _ _ ?_)))
 refine sx_block ?_
 refine sx_loop (fun mm aa w' => ∃ (k : Nat) (s : Value) (os : List Int) (c : Nat), Agr 56 [(0, va), (1, vb), (5, s), (6, .int .i64 ((c : Nat) : Int)), (7, .int .i64 ↑k)] aa ∧ Chg w.heap.size ws3.heap.size ws3 w' ∧ Own w' w.heap.size w'.heap.size s intT os.length 1 (os.map (Value.int .i64)) ∧ (mm = max (dg m).length (dg n).length + 1 - k) ∧ (os.length = k) ∧ (Lm os) ∧ (c ≤ 1) ∧ (k ≤ max (dg m).length (dg n).length) ∧ (vl os + Bs ^ k * c = vl ((dg m).take k) + vl ((dg n).take k))) (_) (fun a ha => ⟨0, s3, [], 0, ha.sub (Sub.c 0 rfl (.c 1 rfl (.c 5 rfl (.c 6 (look_int (t := 6) rfl (by first | omega | simp)) (.c 7 (look_int (t := 7) rfl (by first | omega | simp)) .nil))))), Chg.refl _ _ _, (fs3.mono (by omega) (by omega)), rfl, rfl, Lm.nil, by omega, by omega, by simp [vl]⟩) ?_
 rintro mm aa wl7 ⟨k, s, os, c, hAwl7, cwl7, hs_s, hm, hos, hlm, hc, hk, hv⟩
 refine (show cw Try.prog 56 _ _ _ wl7 from ?_) aa hAwl7
 clear hAwl7
 have zwl7 := cwl7.size
 have am := (Lm_dg m).getD k
 have bn := (Lm_dg n).getD k
 refine sx_seq fun K8 k8 => ?_
 refine sx_seq fun K9 k9 => sx_region ?_
 refine mv rfl rfl (mv rfl rfl ?_)
 have f10 := hva0.ext cs3
 have f11 := f10.chg cwl7 (by omega)
 refine sp rfl (px_len rfl Try.underlying23 f11) ?_
 refine mv rfl rfl ?_
 have f12 := hvb0.ext cs3
 have f13 := f12.chg cwl7 (by omega)
 refine sp rfl (px_len rfl Try.underlying23 f13) ?_
 refine sp rfl (px_max rfl rfl) ?_
 refine sp rfl (px_lt rfl rfl) ?_
 refine wl_nil (q_n (k9 _ _ ?_))
 refine sx_condP rfl (fun h105 => ?_) (fun h105 => ?_)
 ·
  refine sx_skip ?_
  refine q_n (k8 _ _ ?_)
  refine sx_seq fun K14 k14 => ?_
  refine sx_block ?_
  refine sx_seq fun K15 k15 => ?_
  refine sx_seq fun K16 k16 => sx_region ?_
  refine mv rfl rfl (mv rfl rfl (sp rfl (px_len rfl Try.underlying23 f11) ?_))
  refine sp rfl (px_lt rfl rfl) ?_
  refine wl_nil (q_n (k16 _ _ ?_))
  refine sx_sub (Sub.c 0 rfl (.c 1 rfl (.c 5 rfl (.c 6 rfl (.c 7 rfl (.c 27 rfl .nil)))))) ?_
  refine sx_condP rfl (fun h106 => ?_) (fun h106 => ?_)
  ·
   refine sx_region ?_
   refine mv rfl rfl (mv rfl rfl (mv rfl rfl (sp rfl (px_index1 (j := k) rfl rfl (by omega) Try.underlying23 Try.sizeOf3 f11 (by omega)) ?_)))
   refine sp rfl (px_load rfl (f11.load1 (at_int (by omega)) Try.isAgg3)) ?_
   refine sp rfl (px_add rfl rfl (by omega)) ?_
   refine av rfl rfl (wl_nil (q_n (k15 _ _ ?_)))
   refine sx_seq fun K17 k17 => ?_
   refine sx_seq fun K18 k18 => sx_region ?_
   refine mv rfl rfl (mv rfl rfl (sp rfl (px_len rfl Try.underlying23 f13) ?_))
   refine sp rfl (px_lt rfl rfl) ?_
   refine wl_nil (q_n (k18 _ _ ?_))
   refine sx_sub (Sub.c 0 rfl (.c 1 rfl (.c 5 rfl (.c 6 rfl (.c 7 rfl (.c 37 rfl .nil)))))) ?_
   refine sx_condP rfl (fun h109 => ?_) (fun h109 => ?_)
   ·
    refine sx_region ?_
    refine mv rfl rfl (mv rfl rfl (mv rfl rfl (sp rfl (px_index1 (j := k) rfl rfl (by omega) Try.underlying23 Try.sizeOf3 f13 (by omega)) ?_)))
    refine sp rfl (px_load rfl (f13.load1 (at_int (by omega)) Try.isAgg3)) ?_
    refine sp rfl (px_add rfl rfl (by omega)) ?_
    refine av rfl rfl (wl_nil (q_n (k17 _ _ ?_)))
    refine sx_seq fun K19 k19 => sx_region ?_
    refine mv rfl rfl (mv rfl rfl (sp rfl (px_rem rfl rfl (by omega) (by omega)) ?_))
    refine sx_lit1 rfl xelt23 rfl rfl (fun s20 ws20 ss20 fs20 cs20 => ?_)
    have ns20 := Own.norm (f := (Value.int .i64)) (zs := [((((c : Nat) : Int) + ((dg m).getD k 0)) + ((dg n).getD k 0)) % 1000000000]) fs20
    have zws20 := cs20.size
    have f22 := hs_s.ext cs20
    refine sx_append rfl xelt23 rfl rfl f22 ns20.sv one_int (by omega) (by simp only [List.length_cons, List.length_nil]; omega) (by unfold maxLen; simp only [List.length_cons, List.length_nil]; omega) (fun a21 w21 fw21 cw21 => ?_)
    have nw21 := Own.app (f := (Value.int .i64)) (a := os) (b := [((((c : Nat) : Int) + ((dg m).getD k 0)) + ((dg n).getD k 0)) % 1000000000]) fw21
    have zw21 := cw21.size
    refine av rfl rfl (wl_nil (q_n (k19 _ _ ?_)))
    refine sx_sub (Sub.c 0 rfl (.c 1 rfl (.c 5 rfl (.c 6 rfl (.c 7 rfl .nil))))) ?_
    refine sx_region ?_
    refine mv rfl rfl (sp rfl (px_quo rfl rfl (by omega) (by omega) (by omega)) ?_)
    refine av rfl rfl (wl_nil ?_)
    refine q_bn (q_n (k14 _ _ ?_))
    refine sx_region ?_
    refine mv rfl rfl (sp rfl (px_add rfl rfl (by omega)) ?_)
    refine av rfl rfl (wl_nil ?_)
    have q23 := Chg.step (l := w.heap.size) (h := ws3.heap.size) cwl7 cs20 (by omega)
    have q24 := Chg.step (l := w.heap.size) (h := ws3.heap.size) q23 cw21 (by omega)
    have hs : (((((c : Nat) : Int) + ((dg m).getD k 0)) + ((dg n).getD k 0)) : Int) = ((c : Nat) : Int) + (((dg m).getD k 0).toNat : Nat) + (((dg n).getD k 0).toNat : Nat) := by omega
    have hv2 : vl (os ++ [(((((c : Nat) : Int) + ((dg m).getD k 0)) + ((dg n).getD k 0))) % 1000000000]) + Bs ^ (k + 1) * ((((((c : Nat) : Int) + ((dg m).getD k 0)) + ((dg n).getD k 0))) / 1000000000 : Int).toNat = vl ((dg m).take (k + 1)) + vl ((dg n).take (k + 1)) := by
     rw [vl_concat, hos, vl_take_succ', vl_take_succ', Nat.pow_succ]
     exact add_step hs hv
    have hX := mod_bd (s := ((((c : Nat) : Int) + ((dg m).getD k 0)) + ((dg n).getD k 0))) (by omega)
    exact fun a ha => ⟨_, by omega, (k + 1), a21, (os ++ ([((((c : Nat) : Int) + ((dg m).getD k 0)) + ((dg n).getD k 0)) % 1000000000])), ((((((c : Nat) : Int) + ((dg m).getD k 0)) + ((dg n).getD k 0))) / 1000000000 : Int).toNat, ha.sub (Sub.c 0 rfl (.c 1 rfl (.c 5 rfl (.c 6 (look_int (t := 6) rfl (by first | omega | simp)) (.c 7 (look_int (t := 7) rfl (by first | omega | simp)) .nil))))), q24, (nw21.mono (by omega) (by omega)), rfl, by simp [hos], hlm.append (Lm.single hX.1 hX.2), by omega, by omega, hv2⟩
   have gn := getD_ge (zs := dg n) (k := k) (by omega)
   refine sx_skip ?_
   refine q_n (k17 _ _ ?_)
   refine sx_seq fun K25 k25 => sx_region ?_
   refine mv rfl rfl (mv rfl rfl (sp rfl (px_rem rfl rfl (by omega) (by omega)) ?_))
   refine sx_lit1 rfl xelt23 rfl rfl (fun s26 ws26 ss26 fs26 cs26 => ?_)
   have ns26 := Own.norm (f := (Value.int .i64)) (zs := [(((c : Nat) : Int) + ((dg m).getD k 0)) % 1000000000]) fs26
   have zws26 := cs26.size
   have f28 := hs_s.ext cs26
   refine sx_append rfl xelt23 rfl rfl f28 ns26.sv one_int (by omega) (by simp only [List.length_cons, List.length_nil]; omega) (by unfold maxLen; simp only [List.length_cons, List.length_nil]; omega) (fun a27 w27 fw27 cw27 => ?_)
   have nw27 := Own.app (f := (Value.int .i64)) (a := os) (b := [(((c : Nat) : Int) + ((dg m).getD k 0)) % 1000000000]) fw27
   have zw27 := cw27.size
   refine av rfl rfl (wl_nil (q_n (k25 _ _ ?_)))
   refine sx_region ?_
   refine mv rfl rfl (sp rfl (px_quo rfl rfl (by omega) (by omega) (by omega)) ?_)
   refine av rfl rfl (wl_nil ?_)
   refine q_bn (q_n (k14 _ _ ?_))
   refine sx_region ?_
   refine mv rfl rfl (sp rfl (px_add rfl rfl (by omega)) ?_)
   refine av rfl rfl (wl_nil ?_)
   have q29 := Chg.step (l := w.heap.size) (h := ws3.heap.size) cwl7 cs26 (by omega)
   have q30 := Chg.step (l := w.heap.size) (h := ws3.heap.size) q29 cw27 (by omega)
   have hs : ((((c : Nat) : Int) + ((dg m).getD k 0)) : Int) = ((c : Nat) : Int) + (((dg m).getD k 0).toNat : Nat) + (((dg n).getD k 0).toNat : Nat) := by omega
   have hv2 : vl (os ++ [((((c : Nat) : Int) + ((dg m).getD k 0))) % 1000000000]) + Bs ^ (k + 1) * (((((c : Nat) : Int) + ((dg m).getD k 0))) / 1000000000 : Int).toNat = vl ((dg m).take (k + 1)) + vl ((dg n).take (k + 1)) := by
    rw [vl_concat, hos, vl_take_succ', vl_take_succ', Nat.pow_succ]
    exact add_step hs hv
   have hX := mod_bd (s := (((c : Nat) : Int) + ((dg m).getD k 0))) (by omega)
   exact fun a ha => ⟨_, by omega, (k + 1), a27, (os ++ ([(((c : Nat) : Int) + ((dg m).getD k 0)) % 1000000000])), (((((c : Nat) : Int) + ((dg m).getD k 0))) / 1000000000 : Int).toNat, ha.sub (Sub.c 0 rfl (.c 1 rfl (.c 5 rfl (.c 6 (look_int (t := 6) rfl (by first | omega | simp)) (.c 7 (look_int (t := 7) rfl (by first | omega | simp)) .nil))))), q30, (nw27.mono (by omega) (by omega)), rfl, by simp [hos], hlm.append (Lm.single hX.1 hX.2), by omega, by omega, hv2⟩
  have gm := getD_ge (zs := dg m) (k := k) (by omega)
  refine sx_skip ?_
  refine q_n (k15 _ _ ?_)
  refine sx_seq fun K31 k31 => ?_
  refine sx_seq fun K32 k32 => sx_region ?_
  refine mv rfl rfl (mv rfl rfl (sp rfl (px_len rfl Try.underlying23 f13) ?_))
  refine sp rfl (px_lt rfl rfl) ?_
  refine wl_nil (q_n (k32 _ _ ?_))
  refine sx_condP rfl (fun h109 => ?_) (fun h109 => ?_)
  ·
   refine sx_region ?_
   refine mv rfl rfl (mv rfl rfl (mv rfl rfl (sp rfl (px_index1 (j := k) rfl rfl (by omega) Try.underlying23 Try.sizeOf3 f13 (by omega)) ?_)))
   refine sp rfl (px_load rfl (f13.load1 (at_int (by omega)) Try.isAgg3)) ?_
   refine sp rfl (px_add rfl rfl (by omega)) ?_
   refine av rfl rfl (wl_nil (q_n (k31 _ _ ?_)))
   refine sx_sub (Sub.c 0 rfl (.c 1 rfl (.c 5 rfl (.c 6 rfl (.c 7 rfl .nil))))) ?_
   refine sx_seq fun K33 k33 => sx_region ?_
   refine mv rfl rfl (mv rfl rfl (sp rfl (px_rem rfl rfl (by omega) (by omega)) ?_))
   refine sx_lit1 rfl xelt23 rfl rfl (fun s34 ws34 ss34 fs34 cs34 => ?_)
   have ns34 := Own.norm (f := (Value.int .i64)) (zs := [(((c : Nat) : Int) + ((dg n).getD k 0)) % 1000000000]) fs34
   have zws34 := cs34.size
   have f36 := hs_s.ext cs34
   refine sx_append rfl xelt23 rfl rfl f36 ns34.sv one_int (by omega) (by simp only [List.length_cons, List.length_nil]; omega) (by unfold maxLen; simp only [List.length_cons, List.length_nil]; omega) (fun a35 w35 fw35 cw35 => ?_)
   have nw35 := Own.app (f := (Value.int .i64)) (a := os) (b := [(((c : Nat) : Int) + ((dg n).getD k 0)) % 1000000000]) fw35
   have zw35 := cw35.size
   refine av rfl rfl (wl_nil (q_n (k33 _ _ ?_)))
   refine sx_region ?_
   refine mv rfl rfl (sp rfl (px_quo rfl rfl (by omega) (by omega) (by omega)) ?_)
   refine av rfl rfl (wl_nil ?_)
   refine q_bn (q_n (k14 _ _ ?_))
   refine sx_region ?_
   refine mv rfl rfl (sp rfl (px_add rfl rfl (by omega)) ?_)
   refine av rfl rfl (wl_nil ?_)
   have q37 := Chg.step (l := w.heap.size) (h := ws3.heap.size) cwl7 cs34 (by omega)
   have q38 := Chg.step (l := w.heap.size) (h := ws3.heap.size) q37 cw35 (by omega)
   have hs : ((((c : Nat) : Int) + ((dg n).getD k 0)) : Int) = ((c : Nat) : Int) + (((dg m).getD k 0).toNat : Nat) + (((dg n).getD k 0).toNat : Nat) := by omega
   have hv2 : vl (os ++ [((((c : Nat) : Int) + ((dg n).getD k 0))) % 1000000000]) + Bs ^ (k + 1) * (((((c : Nat) : Int) + ((dg n).getD k 0))) / 1000000000 : Int).toNat = vl ((dg m).take (k + 1)) + vl ((dg n).take (k + 1)) := by
    rw [vl_concat, hos, vl_take_succ', vl_take_succ', Nat.pow_succ]
    exact add_step hs hv
   have hX := mod_bd (s := (((c : Nat) : Int) + ((dg n).getD k 0))) (by omega)
   exact fun a ha => ⟨_, by omega, (k + 1), a35, (os ++ ([(((c : Nat) : Int) + ((dg n).getD k 0)) % 1000000000])), (((((c : Nat) : Int) + ((dg n).getD k 0))) / 1000000000 : Int).toNat, ha.sub (Sub.c 0 rfl (.c 1 rfl (.c 5 rfl (.c 6 (look_int (t := 6) rfl (by first | omega | simp)) (.c 7 (look_int (t := 7) rfl (by first | omega | simp)) .nil))))), q38, (nw35.mono (by omega) (by omega)), rfl, by simp [hos], hlm.append (Lm.single hX.1 hX.2), by omega, by omega, hv2⟩
  have gn := getD_ge (zs := dg n) (k := k) (by omega)
  refine sx_skip ?_
  refine q_n (k31 _ _ ?_)
  refine sx_seq fun K39 k39 => sx_region ?_
  refine mv rfl rfl (mv rfl rfl (sp rfl (px_rem rfl rfl (by omega) (by omega)) ?_))
  refine sx_lit1 rfl xelt23 rfl rfl (fun s40 ws40 ss40 fs40 cs40 => ?_)
  have ns40 := Own.norm (f := (Value.int .i64)) (zs := [((c : Nat) : Int) % 1000000000]) fs40
  have zws40 := cs40.size
  have f42 := hs_s.ext cs40
  refine sx_append rfl xelt23 rfl rfl f42 ns40.sv one_int (by omega) (by simp only [List.length_cons, List.length_nil]; omega) (by unfold maxLen; simp only [List.length_cons, List.length_nil]; omega) (fun a41 w41 fw41 cw41 => ?_)
  have nw41 := Own.app (f := (Value.int .i64)) (a := os) (b := [((c : Nat) : Int) % 1000000000]) fw41
  have zw41 := cw41.size
  refine av rfl rfl (wl_nil (q_n (k39 _ _ ?_)))
  refine sx_sub (Sub.c 0 rfl (.c 1 rfl (.c 5 rfl (.c 6 rfl (.c 7 rfl .nil))))) ?_
  refine sx_region ?_
  refine mv rfl rfl (sp rfl (px_quo rfl rfl (by omega) (by omega) (by omega)) ?_)
  refine av rfl rfl (wl_nil ?_)
  refine q_bn (q_n (k14 _ _ ?_))
  refine sx_region ?_
  refine mv rfl rfl (sp rfl (px_add rfl rfl (by omega)) ?_)
  refine av rfl rfl (wl_nil ?_)
  have q43 := Chg.step (l := w.heap.size) (h := ws3.heap.size) cwl7 cs40 (by omega)
  have q44 := Chg.step (l := w.heap.size) (h := ws3.heap.size) q43 cw41 (by omega)
  have hs : (((c : Nat) : Int) : Int) = ((c : Nat) : Int) + (((dg m).getD k 0).toNat : Nat) + (((dg n).getD k 0).toNat : Nat) := by omega
  have hv2 : vl (os ++ [(((c : Nat) : Int)) % 1000000000]) + Bs ^ (k + 1) * ((((c : Nat) : Int)) / 1000000000 : Int).toNat = vl ((dg m).take (k + 1)) + vl ((dg n).take (k + 1)) := by
   rw [vl_concat, hos, vl_take_succ', vl_take_succ', Nat.pow_succ]
   exact add_step hs hv
  have hX := mod_bd (s := ((c : Nat) : Int)) (by omega)
  exact fun a ha => ⟨_, by omega, (k + 1), a41, (os ++ ([((c : Nat) : Int) % 1000000000])), ((((c : Nat) : Int)) / 1000000000 : Int).toNat, ha.sub (Sub.c 0 rfl (.c 1 rfl (.c 5 rfl (.c 6 (look_int (t := 6) rfl (by first | omega | simp)) (.c 7 (look_int (t := 7) rfl (by first | omega | simp)) .nil))))), q44, (nw41.mono (by omega) (by omega)), rfl, by simp [hos], hlm.append (Lm.single hX.1 hX.2), by omega, by omega, hv2⟩
 refine sx_exit ?_
 refine q_e (q_e (q_bx (q_n (k5 _ _ ?_))))
 refine sx_seq fun K45 k45 => ?_
 have ek : k = max (dg m).length (dg n).length := by omega
 have hz : Lm (os ++ [((c : Nat) : Int)]) := hlm.append (Lm.single (by omega) (by omega))
 have hvv : vl (os ++ [((c : Nat) : Int)]) = m + n := by rw [vl_concat, hos, Int.toNat_natCast, hv, vl_take_ge (by omega), vl_take_ge (by omega), vl_dg, vl_dg]
 refine sx_region ?_
 refine mv rfl rfl (mv rfl rfl ?_)
 refine sx_lit1 rfl xelt23 rfl rfl (fun s46 ws46 ss46 fs46 cs46 => ?_)
 have ns46 := Own.norm (f := (Value.int .i64)) (zs := [((c : Nat) : Int)]) fs46
 have zws46 := cs46.size
 have f48 := hs_s.ext cs46
 refine sx_append rfl xelt23 rfl rfl f48 ns46.sv one_int (by omega) (by simp only [List.length_cons, List.length_nil]; omega) (by unfold maxLen; simp only [List.length_cons, List.length_nil]; omega) (fun a47 w47 fw47 cw47 => ?_)
 have nw47 := Own.app (f := (Value.int .i64)) (a := os) (b := [((c : Nat) : Int)]) fw47
 have zw47 := cw47.size
 refine sx_call rfl rfl Try.call79 (c_trim nw47 (by assumption) (by first | omega | (simp only [List.length_append, List.length_set, List.length_replicate, List.length_cons, List.length_nil] at *; omega))) (fun v49 w49 p49 => ?_)
 obtain ⟨s49, rfl, os_49, c49⟩ := p49
 have zw49 := c49.size
 refine av rfl rfl (wl_nil (q_n (k45 _ _ ?_)))
 refine sx_sub (Sub.c 4 rfl .nil) ?_
 refine sx_retc ?_
 refine sx_ret1 Try.results66 rfl ?_
 have hr := os_49
 rw [hvv] at hr
 have q50 := Chg.step (l := 0) (h := 0) (Chg.zero (l := 0) (h := 0) cs3) cwl7 (by omega)
 have q51 := Chg.step (l := 0) (h := 0) q50 cs46 (by omega)
 have q52 := Chg.step (l := 0) (h := 0) q51 cw47 (by omega)
 have q53 := Chg.step (l := 0) (h := 0) q52 c49 (by omega)
 exact ⟨_, rfl, hr.mono (by omega) (by omega), q53⟩

theorem c_natAdd1 {w : World} {va : Value} {lva uva : Nat} {m : Nat} {vb : Value} {lvb uvb : Nat} {ys : List Int} (hva : Sl w lva uva va (dg m)) (hvb : Sl w lvb uvb vb (ys)) (hbm : (dg m).length ≤ 1000) (hy : ys = [1]) :
  Ret Try.prog 66 [va, vb] w fun v w' => ∃ s, v = s ∧ OwnI w' w.heap.size w'.heap.size s intT (dg (m + 1)) ∧ Chg 0 0 w w' := by
 rw [hy, ← dg_1] at hvb; exact c_natAdd hva hvb hbm (by rw [dg_1]; simp)

theorem c_iNatEven {w : World} {va : Value} {lva uva : Nat} {m : Nat} (hva : Sl w lva uva va (dg m)) (hbm : (dg m).length ≤ 50) :
  Ret Try.prog 67 [va] w fun v w' => v = .bool (decide (¬ m % 2 = 1)) ∧ Chg 0 0 w w' := by
 have hva0 := hva.fit
 refine sx_enter Try.func67 rfl Try.ntmps67 (nbl rfl) ?_
 refine sx_seq fun K1 k1 => sx_region ?_
 refine av rfl rfl (wl_nil (q_n (k1 _ _ ?_)))
 refine sx_seq fun K2 k2 => sx_region ?_
 refine mv rfl rfl (sx_call rfl rfl Try.call61 (c_iNatOk hva0 (by omega)) (fun v3 w3 p3 => ?_))
 obtain ⟨rfl, c3⟩ := p3
 have zw3 := c3.size
 refine mv rfl rfl ?_
 have h151 : NOk (dg m) := NOk_dg (by omega)
 refine sx_tmpPT (t := 5) rfl h151 ?_
 refine sx_guardT rfl rfl rfl ?_
 refine mv rfl rfl ?_
 refine sx_guardT rfl rfl rfl ?_
 have f4 := hva0.ext c3
 refine sp rfl (px_len rfl Try.underlying23 f4) ?_
 refine sx_guardT rfl rfl rfl ?_
 refine sp rfl (px_eq rfl rfl) ?_
 refine sx_guardT rfl rfl rfl ?_
 refine mv rfl rfl ?_
 refine sx_tmpP (t := 9) rfl (fun h151x1 => ?_) (fun h151x1 => ?_)
 ·
  refine sx_guardF rfl rfl rfl rfl rfl rfl ?_
  refine sx_guardF rfl rfl rfl rfl rfl rfl ?_
  refine sx_guardF rfl rfl rfl rfl rfl rfl ?_
  refine sx_guardF rfl rfl rfl rfl rfl rfl ?_
  refine sx_guardF rfl rfl rfl rfl rfl rfl ?_
  refine sx_guardT rfl rfl rfl ?_
  refine sp rfl (px_pick rfl rfl) ?_
  refine sp rfl (px_pick rfl rfl) ?_
  refine av rfl rfl (wl_nil (q_n (k2 _ _ ?_)))
  refine sx_sub (Sub.c 2 rfl .nil) ?_
  refine sx_retc ?_
  refine sx_ret1 Try.results67 rfl ?_
  exact ⟨(by have hk := odd_dg (q := m); first | exact bTrue (hk.1 (.inl (by omega))) | exact bIff ⟨fun h => hk.1 (.inr h), fun h => (hk.2 h).resolve_left (by omega)⟩), c3⟩
 refine sx_guardT rfl rfl rfl ?_
 refine mv rfl rfl ?_
 refine sx_guardT rfl rfl rfl ?_
 refine sp rfl (px_index1 (j := 0) rfl rfl (by omega) Try.underlying23 Try.sizeOf3 f4 (by omega)) ?_
 refine sx_guardT rfl rfl rfl ?_
 refine sp rfl (px_load rfl (f4.load1 (at_int (by omega)) Try.isAgg3)) ?_
 refine sx_guardT rfl rfl rfl ?_
 refine sp rfl (px_rem rfl rfl (by have := (Lm_dg m).getD 0; omega) (by omega)) ?_
 refine sx_guardT rfl rfl rfl ?_
 refine sp rfl (px_eq rfl rfl) ?_
 refine sx_guardT rfl rfl rfl ?_
 refine sp rfl (px_pick rfl rfl) ?_
 refine sp rfl (px_pick rfl rfl) ?_
 refine av rfl rfl (wl_nil (q_n (k2 _ _ ?_)))
 refine sx_sub (Sub.c 2 rfl .nil) ?_
 refine sx_retc ?_
 refine sx_ret1 Try.results67 rfl ?_
 exact ⟨(by have hk := odd_dg (q := m); first | exact bTrue (hk.1 (.inl (by omega))) | exact bIff ⟨fun h => hk.1 (.inr h), fun h => (hk.2 h).resolve_left (by omega)⟩), c3⟩

theorem c_signed {w : World} {n : Bool} {va : Value} {lva uva : Nat} {zs : List Int} (hva : Sl w lva uva va (zs)) (h63 : zs.length ≤ 4611686018427387904) :
  Ret Try.prog 68 [.bool n, va] w fun v w' => v = .agg #[.bool (nz n zs), va] ∧ Chg 0 0 w w' := by
 have hva0 := hva.fit
 refine sx_enter Try.func68 rfl Try.ntmps68 (nbl rfl) ?_
 refine sx_seq fun K1 k1 => sx_region ?_
 refine sx_alloc [.bool false, (.slice none 0 0)] rfl Try.zeroValue25 rfl (fun b2 w3 eb2 sb2 fb2 cb2 => ?_)
 have zw3 := cb2.size
 refine wl_nil (q_n (k1 _ _ ?_))
 refine sx_seq fun K4 k4 => sx_region ?_
 refine mv rfl rfl (mv rfl rfl ?_)
 refine sx_tmpB (t := 6) rfl (fun h16 => ?_) (fun h16 => ?_)
 ·
  refine sx_guardT rfl rfl rfl ?_
  refine mv rfl rfl ?_
  refine sx_guardT rfl rfl rfl ?_
  have f5 := hva0.ext cb2
  refine sp rfl (px_len rfl Try.underlying23 f5) ?_
  refine sx_guardT rfl rfl rfl ?_
  refine sp rfl (px_gt rfl rfl) ?_
  refine sp rfl (px_pick rfl rfl) ?_
  refine mv rfl rfl (sp rfl (px_build rfl (xbld25x0x1 rfl f5.one _)) ?_)
  refine sx_store (vs := [.bool (decide ((0 : Int) < ↑((zs).length))), va]) rfl rfl fb2 rfl Try.sizeOf25 (nbl rfl) (one_cons rfl (one_cons f5.one one_nil)) (fun w6 sw6 fw6 cw6 => ?_)
  have zw6 := cw6.size
  have gw6 : Blk w6 b2 [.bool (decide ((0 : Int) < ↑((zs).length))), va] 25 := fw6
  refine wl_nil (q_n (k4 _ _ ?_))
  refine sx_retc ?_
  refine sx_ret1 Try.results68 ⟨_, rfl, gw6.loadA (vs := [.bool (decide ((0 : Int) < ↑((zs).length))), va]) (look_lit rfl) Try.isAgg25 Try.sizeOf25⟩ ?_
  have q7 := Chg.step (l := 0) (h := 0) (Chg.zero (l := 0) (h := 0) cb2) cw6 (by omega)
  exact ⟨(by simp [nz, h16]), q7⟩
 refine sx_guardF rfl rfl rfl rfl rfl rfl ?_
 refine sx_guardF rfl rfl rfl rfl rfl rfl ?_
 refine sx_guardF rfl rfl rfl rfl rfl rfl ?_
 refine sp rfl (px_pick rfl rfl) ?_
 refine mv rfl rfl ?_
 have f8 := hva0.ext cb2
 refine sp rfl (px_build rfl (xbld25x0x1 rfl f8.one _)) ?_
 refine sx_store (vs := [.bool false, va]) rfl rfl fb2 rfl Try.sizeOf25 (nbl rfl) (one_cons rfl (one_cons f8.one one_nil)) (fun w9 sw9 fw9 cw9 => ?_)
 have zw9 := cw9.size
 have gw9 : Blk w9 b2 [.bool false, va] 25 := fw9
 refine wl_nil (q_n (k4 _ _ ?_))
 refine sx_retc ?_
 refine sx_ret1 Try.results68 ⟨_, rfl, gw9.loadA (vs := [.bool false, va]) (look_lit rfl) Try.isAgg25 Try.sizeOf25⟩ ?_
 have q10 := Chg.step (l := 0) (h := 0) (Chg.zero (l := 0) (h := 0) cb2) cw9 (by omega)
 exact ⟨(by simp [nz, h16]), q10⟩

theorem c_roundQuotient {w : World} {va : Value} {lva uva : Nat} {x : Int} {vb : Value} {lvb uvb : Nat} {d : Nat} {m : Int} (hva : Sl w lva uva va (dg x.natAbs)) (hvb : Sl w lvb uvb vb (dg d)) (hbx : (dg x.natAbs).length ≤ 49) (hbd : (dg d).length ≤ 390) (hd0 : 0 < d) (hm : 0 ≤ m ∧ m ≤ 6) :
  Ret Try.prog 34 [.agg #[.bool (ng x), va], vb, .int .i64 m] w fun v w' => ∃ s, v = .agg #[.bool (ng (rqI x d m)), s] ∧ OwnI w' w.heap.size w'.heap.size s intT (dg (rqI x d m).natAbs) ∧ Chg 0 0 w w' := by
 have hva0 := hva.fit
 have hvb0 := hvb.fit
 have lq := len_div x.natAbs d
 have lr := len_mod (m := x.natAbs) hd0
 have lrr := len_add (x.natAbs % d) (x.natAbs % d)
 refine sx_enter Try.func34 rfl Try.ntmps34 (nbl rfl) ?_
 refine sx_seq fun K1 k1 => sx_region ?_
 refine sx_box [.bool (ng x), va] rfl rfl rfl (fun b2 w3 eb2 sb2 fb2 cb2 => ?_)
 have zw3 := cb2.size
 refine sx_alloc [.bool false, (.slice none 0 0)] rfl Try.zeroValue25 rfl (fun b4 w5 eb4 sb4 fb4 cb4 => ?_)
 have zw5 := cb4.size
 refine wl_nil (q_n (k1 _ _ ?_))
 refine sx_seq fun K6 k6 => sx_region ?_
 refine sp rfl (px_field rfl xfld25x1) ?_
 have f7 := fb2.ext cb4
 refine sp rfl (px_load rfl (f7.load1 rfl Try.isAgg23)) ?_
 refine mv rfl rfl ?_
 have f8 := hva0.ext cb2
 have f9 := f8.ext cb4
 have f10 := hvb0.ext cb2
 have f11 := f10.ext cb4
 refine sx_call rfl rfl Try.call64 (c_natDiv f9 f11 (by omega) (by omega) (hd0)) (fun v12 w12 p12 => ?_)
 obtain ⟨s12, t12, rfl, os_12, ot_12, c12⟩ := p12
 have zw12 := c12.size
 refine mv rfl rfl (sp rfl (px_ex2 rfl rfl) ?_)
 refine sp rfl (px_ex2 rfl rfl) ?_
 refine av rfl rfl (av rfl rfl (wl_nil (q_n (k6 _ _ ?_))))
 refine sx_seq fun K13 k13 => ?_
 refine sx_seq fun K14 k14 => ?_
 by_cases ph57 : 0 < (dg (x.natAbs % d)).length
 ·
  have f15 := f7.ext c12
  have f16 := fb4.ext c12
  have f17 := f9.ext c12
  refine dx_region (fun w' => Chg 0 0 w12 w') (by kernel_rfl) (Chg.zero (Chg.drew _)) ?_
  have d19 := Chg.drew w12
  have s19 : Chg 0 0 w12 (World.drew w12) := Chg.zero (Chg.drew _)
  have y19 : (World.drew w12).heap.size = w12.heap.size := rfl
  generalize World.drew w12 = w19 at *
  have zw19 := d19.size
  refine dt 0 rfl rfl rfl rfl s19 (fun _ hS => px_move rfl) ?_
  refine dt 1 rfl rfl rfl rfl s19 (fun _ hS => px_len rfl Try.underlying23 ((ot_12.sv).chg hS (by omega))) ?_
  refine dt 2 rfl rfl rfl rfl s19 (fun _ hS => px_gt rfl rfl) ?_
  refine dt 3 rfl rfl rfl rfl s19 (fun _ hS => px_move rfl) ?_
  have h57 : (0 : Int) < ↑((dg (x.natAbs % d)).length) := by omega
  refine dx_tmpPT (t := 19) rfl h57 ?_
  refine dx_takeG 5 rfl rfl rfl rfl rfl rfl (by kernel_rfl) (by kernel_rfl) (by kernel_rfl) s19 (fun _ hS => px_move rfl) ?_
  refine dx_takeG 8 rfl rfl rfl rfl rfl rfl (by kernel_rfl) (by kernel_rfl) (by kernel_rfl) s19 (fun _ hS => px_field rfl xfld25x0) ?_
  refine dx_takeG 9 rfl rfl rfl rfl rfl rfl (by kernel_rfl) (by kernel_rfl) (by kernel_rfl) s19 (fun _ hS => px_load rfl ((f15.chg hS (by omega)).load1 rfl Try.isAgg4)) ?_
  refine dx_takeG 10 rfl rfl rfl rfl rfl rfl (by kernel_rfl) (by kernel_rfl) (by kernel_rfl) s19 (fun _ hS => px_move rfl) ?_
  refine dx_takeG 11 rfl rfl rfl rfl rfl rfl (by kernel_rfl) (by kernel_rfl) (by kernel_rfl) s19 (fun _ hS => px_move rfl) ?_
  refine dx_takeG 13 rfl rfl rfl rfl rfl rfl (by kernel_rfl) (by kernel_rfl) (by kernel_rfl) s19 (fun _ hS => px_move rfl) ?_
  refine dx_takeG 15 rfl rfl rfl rfl rfl rfl (by kernel_rfl) (by kernel_rfl) (by kernel_rfl) s19 (fun _ hS => px_move rfl) ?_
  refine dx_eff 4 rfl (by kernel_rfl) ?_
  refine sx_guardT rfl rfl rfl ?_
  refine sx_call rfl rfl Try.call35 (c_roundModes) (fun v20 w20 p20 => ?_)
  obtain ⟨rfl, c20⟩ := p20
  have zw20 := c20.size
  have s21 : Chg 0 0 w12 w20 := (d19.t c20)
  refine wl_nil ?_
  refine dx_next s21 ?_
  refine dx_takeG 6 rfl rfl rfl rfl rfl rfl (by kernel_rfl) (by kernel_rfl) (by kernel_rfl) s21 (fun _ hS => px_indexRm rfl rfl (by omega)) ?_
  refine dx_takeG 7 rfl rfl rfl rfl rfl rfl (by kernel_rfl) (by kernel_rfl) (by kernel_rfl) s21 (fun _ hS => px_fieldv rfl (xfv62x1 _)) ?_
  refine dx_eff 12 rfl (by kernel_rfl) ?_
  refine sx_guardT rfl rfl rfl ?_
  have f23 := (ot_12.ext d19).ext c20
  refine sx_call rfl rfl Try.call66 (c_natAdd f23.sv f23.sv (by omega) (by omega)) (fun v24 w24 p24 => ?_)
  obtain ⟨s24, rfl, os_24, c24⟩ := p24
  have zw24 := c24.size
  have s25 : Chg 0 0 w12 w24 := ((d19.t c20).t c24)
  refine wl_nil ?_
  refine dx_next s25 ?_
  refine dx_eff 14 rfl (by kernel_rfl) ?_
  refine sx_guardT rfl rfl rfl ?_
  have f28 := (((f11.ext c12).ext d19).ext c20).ext c24
  refine sx_call rfl rfl Try.call65 (c_natCmp os_24.sv f28 (by omega)) (fun v29 w29 p29 => ?_)
  obtain ⟨rfl, c29⟩ := p29
  have zw29 := c29.size
  have s30 : Chg 0 0 w12 w29 := (((d19.t c20).t c24).t c29)
  refine wl_nil ?_
  refine dx_next s30 ?_
  refine dx_eff 16 rfl (by kernel_rfl) ?_
  refine sx_guardT rfl rfl rfl ?_
  have f34 := (((os_12.ext d19).ext c20).ext c24).ext c29
  refine sx_call rfl rfl Try.call67 (c_iNatEven f34.sv (by omega)) (fun v35 w35 p35 => ?_)
  obtain ⟨rfl, c35⟩ := p35
  have zw35 := c35.size
  have s36 : Chg 0 0 w12 w35 := ((((d19.t c20).t c24).t c29).t c35)
  refine wl_nil ?_
  refine dx_next s36 ?_
  refine dx_takeG 17 rfl rfl rfl rfl rfl rfl (by kernel_rfl) (by kernel_rfl) (by kernel_rfl) s36 (fun _ hS => px_notP rfl) ?_
  refine dx_eff 18 rfl (by kernel_rfl) ?_
  refine sx_guardT rfl rfl rfl ?_
  refine sx_callV rfl rfl rfl (rm_call (m := m) (by omega)) (c_away (m := m) (by omega)) (fun v37 w37 p37 => ?_)
  obtain ⟨rfl, c37⟩ := p37
  have zw37 := c37.size
  have s38 : Chg 0 0 w12 w37 := (((((d19.t c20).t c24).t c29).t c35).t c37)
  refine wl_nil ?_
  refine dx_next s38 ?_
  refine dt 19 rfl rfl rfl rfl s38 (fun _ hS => px_pick rfl rfl) ?_
  refine dx_done (by kernel_rfl) ?_
  refine q_n (k14 _ _ ?_)
  refine sx_sub (Sub.c 3 rfl (.c 6 rfl (.c 7 rfl (.c 35 rfl .nil)))) ?_
  refine sx_condB rfl (fun h57x1 => ?_) (fun h57x1 => ?_)
  ·
   try rw [cmpL_dg] at h57x1
   try simp only [Decidable.not_not] at h57x1
   have e := rq_up (x := x) (d := d) (m := m) (len_pos.1 (by omega)) h57x1
   refine sx_region ?_
   refine mv rfl rfl ?_
   refine sx_lit1 rfl xelt23 rfl rfl (fun s39 ws39 ss39 fs39 cs39 => ?_)
   have ns39 := Own.norm (f := (Value.int .i64)) (zs := [1]) fs39
   have zws39 := cs39.size
   have f42 := ((f34.ext c35).ext c37).ext cs39
   refine sx_call rfl rfl Try.call66 (c_natAdd1 f42.sv ns39.sv (by omega) (rfl)) (fun v43 w43 p43 => ?_)
   obtain ⟨s43, rfl, os_43, c43⟩ := p43
   have zw43 := c43.size
   refine av rfl rfl (wl_nil (q_n (k13 _ _ ?_)))
   refine sx_seq fun K44 k44 => sx_region ?_
   refine sp rfl (px_field rfl xfld25x0) ?_
   have f51 := ((((((f15.ext d19).ext c20).ext c24).ext c29).ext c35).ext c37).ext cs39
   have f52 := f51.ext c43
   refine sp rfl (px_load rfl (f52.load1 rfl Try.isAgg4)) ?_
   refine mv rfl rfl (sx_call rfl rfl Try.call68 (c_signed os_43.sv (by have h9 := rq_len (x := x) (d := d) (m := m) hbx; rw [e] at h9; omega)) (fun v53 w53 p53 => ?_))
   obtain ⟨rfl, c53⟩ := p53
   have zw53 := c53.size
   have f61 := ((((((f16.ext d19).ext c20).ext c24).ext c29).ext c35).ext c37).ext cs39
   have f63 := (f61.ext c43).ext c53
   have f64 := os_43.ext c53
   refine sx_store (vs := [.bool (nz (ng x) (dg ((x.natAbs / d) + 1))), v43]) rfl rfl f63 rfl Try.sizeOf25 (nbl rfl) (one_cons rfl (one_cons f64.one one_nil)) (fun w54 sw54 fw54 cw54 => ?_)
   have zw54 := cw54.size
   have gw54 : Blk w54 b4 [.bool (nz (ng x) (dg ((x.natAbs / d) + 1))), v43] 25 := fw54
   refine wl_nil (q_n (k44 _ _ ?_))
   refine sx_retc ?_
   refine sx_ret1 Try.results34 ⟨_, rfl, gw54.loadA (vs := [.bool (nz (ng x) (dg ((x.natAbs / d) + 1))), v43]) (look_lit rfl) Try.isAgg25 Try.sizeOf25⟩ ?_
   have hh := rqI_sg x d m
   rw [e] at hh
   rw [← hh.1, ← hh.2]
   have q65 := Chg.step (l := 0) (h := 0) (Chg.zero (l := 0) (h := 0) (((((((((((cb2.t cb4).t c12).t d19).t c20).t c24).t c29).t c35).t c37).t cs39).t c43).t c53)) cw54 (by omega)
   have f66 := f64.chg cw54 (by omega)
   exact ⟨_, rfl, (Own.mono f66 (by omega) (by omega)), q65⟩
  try rw [cmpL_dg] at h57x1
  try simp only [Decidable.not_not] at h57x1
  have e := rq_dn (x := x) (d := d) (m := m) (fun hh => by have h9 := hh.2; rw [h57x1] at h9; cases h9)
  refine sx_skip ?_
  refine q_n (k13 _ _ ?_)
  refine sx_seq fun K67 k67 => sx_region ?_
  refine sp rfl (px_field rfl xfld25x0) ?_
  have f73 := (((((f15.ext d19).ext c20).ext c24).ext c29).ext c35).ext c37
  refine sp rfl (px_load rfl (f73.load1 rfl Try.isAgg4)) ?_
  refine mv rfl rfl ?_
  have f75 := (f34.ext c35).ext c37
  refine sx_call rfl rfl Try.call68 (c_signed f75.sv (by have h9 := rq_len (x := x) (d := d) (m := m) hbx; rw [e] at h9; omega)) (fun v76 w76 p76 => ?_)
  obtain ⟨rfl, c76⟩ := p76
  have zw76 := c76.size
  have f84 := ((((((f16.ext d19).ext c20).ext c24).ext c29).ext c35).ext c37).ext c76
  have f85 := f75.ext c76
  refine sx_store (vs := [.bool (nz (ng x) (dg (x.natAbs / d))), s12]) rfl rfl f84 rfl Try.sizeOf25 (nbl rfl) (one_cons rfl (one_cons f85.one one_nil)) (fun w77 sw77 fw77 cw77 => ?_)
  have zw77 := cw77.size
  have gw77 : Blk w77 b4 [.bool (nz (ng x) (dg (x.natAbs / d))), s12] 25 := fw77
  refine wl_nil (q_n (k67 _ _ ?_))
  refine sx_retc ?_
  refine sx_ret1 Try.results34 ⟨_, rfl, gw77.loadA (vs := [.bool (nz (ng x) (dg (x.natAbs / d))), s12]) (look_lit rfl) Try.isAgg25 Try.sizeOf25⟩ ?_
  have hh := rqI_sg x d m
  rw [e] at hh
  rw [← hh.1, ← hh.2]
  have q86 := Chg.step (l := 0) (h := 0) (Chg.zero (l := 0) (h := 0) (((((((((cb2.t cb4).t c12).t d19).t c20).t c24).t c29).t c35).t c37).t c76)) cw77 (by omega)
  have f87 := f85.chg cw77 (by omega)
  exact ⟨_, rfl, (Own.mono f87 (by omega) (by omega)), q86⟩
 have e := rq_dn (x := x) (d := d) (m := m) (fun hh => by have h9 := len_pos.2 hh.1; omega)
 have f90 := f9.ext c12
 have f91 := f11.ext c12
 refine dx_region (fun w' => Chg 0 0 w12 w') (by kernel_rfl) (Chg.zero (Chg.drew _)) ?_
 have d92 := Chg.drew w12
 have s92 : Chg 0 0 w12 (World.drew w12) := Chg.zero (Chg.drew _)
 have y92 : (World.drew w12).heap.size = w12.heap.size := rfl
 generalize World.drew w12 = w92 at *
 have zw92 := d92.size
 refine dt 0 rfl rfl rfl rfl s92 (fun _ hS => px_move rfl) ?_
 refine dt 1 rfl rfl rfl rfl s92 (fun _ hS => px_len rfl Try.underlying23 ((ot_12.sv).chg hS (by omega))) ?_
 refine dt 2 rfl rfl rfl rfl s92 (fun _ hS => px_gt rfl rfl) ?_
 refine dt 3 rfl rfl rfl rfl s92 (fun _ hS => px_move rfl) ?_
 have h57 : ¬ ((0 : Int) < ↑((dg (x.natAbs % d)).length)) := by omega
 refine dx_tmpPF (t := 19) rfl h57 ?_
 refine dx_skip 4 rfl rfl rfl rfl rfl rfl rfl (by kernel_rfl) (by kernel_rfl) (by kernel_rfl) s92 ?_
 refine dx_skip 5 rfl rfl rfl rfl rfl rfl rfl (by kernel_rfl) (by kernel_rfl) (by kernel_rfl) s92 ?_
 refine dx_skip 6 rfl rfl rfl rfl rfl rfl rfl (by kernel_rfl) (by kernel_rfl) (by kernel_rfl) s92 ?_
 refine dx_skip 7 rfl rfl rfl rfl rfl rfl rfl (by kernel_rfl) (by kernel_rfl) (by kernel_rfl) s92 ?_
 refine dx_skip 8 rfl rfl rfl rfl rfl rfl rfl (by kernel_rfl) (by kernel_rfl) (by kernel_rfl) s92 ?_
 refine dx_skip 9 rfl rfl rfl rfl rfl rfl rfl (by kernel_rfl) (by kernel_rfl) (by kernel_rfl) s92 ?_
 refine dx_skip 10 rfl rfl rfl rfl rfl rfl rfl (by kernel_rfl) (by kernel_rfl) (by kernel_rfl) s92 ?_
 refine dx_skip 11 rfl rfl rfl rfl rfl rfl rfl (by kernel_rfl) (by kernel_rfl) (by kernel_rfl) s92 ?_
 refine dx_skip 12 rfl rfl rfl rfl rfl rfl rfl (by kernel_rfl) (by kernel_rfl) (by kernel_rfl) s92 ?_
 refine dx_skip 13 rfl rfl rfl rfl rfl rfl rfl (by kernel_rfl) (by kernel_rfl) (by kernel_rfl) s92 ?_
 refine dx_skip 14 rfl rfl rfl rfl rfl rfl rfl (by kernel_rfl) (by kernel_rfl) (by kernel_rfl) s92 ?_
 refine dx_skip 15 rfl rfl rfl rfl rfl rfl rfl (by kernel_rfl) (by kernel_rfl) (by kernel_rfl) s92 ?_
 refine dx_skip 16 rfl rfl rfl rfl rfl rfl rfl (by kernel_rfl) (by kernel_rfl) (by kernel_rfl) s92 ?_
 refine dx_skip 17 rfl rfl rfl rfl rfl rfl rfl (by kernel_rfl) (by kernel_rfl) (by kernel_rfl) s92 ?_
 refine dx_skip 18 rfl rfl rfl rfl rfl rfl rfl (by kernel_rfl) (by kernel_rfl) (by kernel_rfl) s92 ?_
 refine dt 19 rfl rfl rfl rfl s92 (fun _ hS => px_pick rfl rfl) ?_
 refine dx_done (by kernel_rfl) ?_
 refine q_n (k14 _ _ ?_)
 refine sx_sub (Sub.c 3 rfl (.c 6 rfl (.c 7 rfl (.c 35 rfl .nil)))) ?_
 refine sx_condF rfl ?_
 refine sx_skip ?_
 refine q_n (k13 _ _ ?_)
 refine sx_seq fun K93 k93 => sx_region ?_
 refine sp rfl (px_field rfl xfld25x0) ?_
 have f94 := (f7.ext c12).ext d92
 refine sp rfl (px_load rfl (f94.load1 rfl Try.isAgg4)) ?_
 refine mv rfl rfl ?_
 have f95 := os_12.ext d92
 refine sx_call rfl rfl Try.call68 (c_signed f95.sv (by have h9 := rq_len (x := x) (d := d) (m := m) hbx; rw [e] at h9; omega)) (fun v96 w96 p96 => ?_)
 obtain ⟨rfl, c96⟩ := p96
 have zw96 := c96.size
 have f99 := ((fb4.ext c12).ext d92).ext c96
 have f100 := f95.ext c96
 refine sx_store (vs := [.bool (nz (ng x) (dg (x.natAbs / d))), s12]) rfl rfl f99 rfl Try.sizeOf25 (nbl rfl) (one_cons rfl (one_cons f100.one one_nil)) (fun w97 sw97 fw97 cw97 => ?_)
 have zw97 := cw97.size
 have gw97 : Blk w97 b4 [.bool (nz (ng x) (dg (x.natAbs / d))), s12] 25 := fw97
 refine wl_nil (q_n (k93 _ _ ?_))
 refine sx_retc ?_
 refine sx_ret1 Try.results34 ⟨_, rfl, gw97.loadA (vs := [.bool (nz (ng x) (dg (x.natAbs / d))), s12]) (look_lit rfl) Try.isAgg25 Try.sizeOf25⟩ ?_
 have hh := rqI_sg x d m
 rw [e] at hh
 rw [← hh.1, ← hh.2]
 have q101 := Chg.step (l := 0) (h := 0) (Chg.zero (l := 0) (h := 0) ((((cb2.t cb4).t c12).t d92).t c96)) cw97 (by omega)
 have f102 := f100.chg cw97 (by omega)
 exact ⟨_, rfl, (Own.mono f102 (by omega) (by omega)), q101⟩

theorem c_iRatRound {w : World} {n1 : Bool} {v1 : Value} {lv1 uv1 : Nat} {z1 : List Int} {d1 : Value} {ld1 ud1 : Nat} {y1 : List Int} {m : Int} (hv1 : Sl w lv1 uv1 v1 (z1)) (hd1 : Sl w ld1 ud1 d1 (y1)) (h63 : z1.length ≤ 4611686018427387904 ∧ y1.length ≤ 4611686018427387904) :
  Ret Try.prog 8 [.agg #[.bool n1, v1, d1], .int .i64 m] w fun v w' => ∃ s, v = .tuple #[.agg #[.bool ((rRound n1 z1 y1 m).1), s], .bool ((rRound n1 z1 y1 m).2.2)] ∧ OwnI w' w.heap.size w'.heap.size s intT ((rRound n1 z1 y1 m).2.1) ∧ ((rRound n1 z1 y1 m).2.1.length ≤ 19) ∧ Chg 0 0 w w' := by
 have hv10 := hv1.fit
 have hd10 := hd1.fit
 refine sx_enter Try.func8 rfl Try.ntmps8 (nbl rfl) ?_
 refine sx_seq fun K1 k1 => sx_region ?_
 refine sx_box [.bool n1, v1, d1] rfl rfl rfl (fun b2 w3 eb2 sb2 fb2 cb2 => ?_)
 have zw3 := cb2.size
 refine sx_alloc [.bool false, (.slice none 0 0)] rfl Try.zeroValue25 rfl (fun b4 w5 eb4 sb4 fb4 cb4 => ?_)
 have zw5 := cb4.size
 refine av rfl rfl (wl_nil (q_n (k1 _ _ ?_)))
 refine sx_seq fun K6 k6 => ?_
 refine sx_seq fun K7 k7 => sx_region ?_
 have f8 := fb2.ext cb4
 refine sp rfl (px_load rfl (f8.loadA (vs := [.bool n1, v1, d1]) (look_lit rfl) Try.isAgg27 Try.sizeOf27)) ?_
 have f9 := hv10.ext cb2
 have f10 := f9.ext cb4
 have f11 := hd10.ext cb2
 have f12 := f11.ext cb4
 refine sx_call rfl rfl Try.call31 (c_iRatOk f10 f12 (by omega)) (fun v13 w13 p13 => ?_)
 obtain ⟨rfl, c13⟩ := p13
 have zw13 := c13.size
 refine sp rfl (px_notP rfl) ?_
 refine mv rfl rfl ?_
 refine sx_tmpP (t := 9) rfl (fun h74 => ?_) (fun h74 => ?_)
 ·
  refine sx_guardF rfl rfl rfl rfl rfl rfl ?_
  refine sx_guardF rfl rfl rfl rfl rfl rfl ?_
  refine sx_guardF rfl rfl rfl rfl rfl rfl ?_
  refine sp rfl (px_pick rfl rfl) ?_
  refine wl_nil (q_n (k7 _ _ ?_))
  refine sx_condT rfl ?_
  refine sx_seq fun K14 k14 => sx_region ?_
  refine sp rfl (px_build rfl (xbld25x  _)) ?_
  have f16 := fb4.ext c13
  refine sx_store (vs := [.bool false, (.slice none 0 0)]) rfl rfl f16 rfl Try.sizeOf25 (nbl rfl) (o2 rfl rfl) (fun w15 sw15 fw15 cw15 => ?_)
  have zw15 := cw15.size
  have gw15 : Blk w15 b4 [.bool false, (.slice none 0 0)] 25 := fw15
  refine av rfl rfl (wl_nil (q_n (k14 _ _ ?_)))
  refine sx_retc ?_
  refine q_r (sx_ret2 Try.results8 ⟨_, rfl, gw15.loadA (vs := [.bool false, (.slice none 0 0)]) (look_lit rfl) Try.isAgg25 Try.sizeOf25⟩ rfl ?_)
  rw [rRound_no (by grind)]
  have q17 := Chg.step (l := 0) (h := 0) (Chg.zero (l := 0) (h := 0) ((cb2.t cb4).t c13)) cw15 (by omega)
  exact ⟨_, rfl, Own.nil _ _ _ _ _, by simp [noS], q17⟩
 refine sx_guardT rfl rfl rfl ?_
 refine mv rfl rfl ?_
 refine sx_guardT rfl rfl rfl ?_
 refine sx_call rfl rfl Try.call33 (c_isMode) (fun v18 w18 p18 => ?_)
 obtain ⟨rfl, c18⟩ := p18
 have zw18 := c18.size
 refine sx_guardT rfl rfl rfl ?_
 refine sp rfl (px_notP rfl) ?_
 refine sp rfl (px_pick rfl rfl) ?_
 refine wl_nil (q_n (k7 _ _ ?_))
 refine sx_condP rfl (fun h74x1 => ?_) (fun h74x1 => ?_)
 ·
  refine sx_seq fun K19 k19 => sx_region ?_
  refine sp rfl (px_build rfl (xbld25x  _)) ?_
  have f22 := (fb4.ext c13).ext c18
  refine sx_store (vs := [.bool false, (.slice none 0 0)]) rfl rfl f22 rfl Try.sizeOf25 (nbl rfl) (o2 rfl rfl) (fun w20 sw20 fw20 cw20 => ?_)
  have zw20 := cw20.size
  have gw20 : Blk w20 b4 [.bool false, (.slice none 0 0)] 25 := fw20
  refine av rfl rfl (wl_nil (q_n (k19 _ _ ?_)))
  refine sx_retc ?_
  refine q_r (sx_ret2 Try.results8 ⟨_, rfl, gw20.loadA (vs := [.bool false, (.slice none 0 0)]) (look_lit rfl) Try.isAgg25 Try.sizeOf25⟩ rfl ?_)
  rw [rRound_no (by grind)]
  have q23 := Chg.step (l := 0) (h := 0) (Chg.zero (l := 0) (h := 0) (((cb2.t cb4).t c13).t c18)) cw20 (by omega)
  exact ⟨_, rfl, Own.nil _ _ _ _ _, by simp [noS], q23⟩
 have hR := Decidable.not_not.1 h74
 have hM := Decidable.not_not.1 h74x1
 obtain ⟨x1, e1, rfl, rfl, rfl, he0, hx1, he1, hg1⟩ := hR.rat
 refine sx_skip ?_
 refine q_n (k6 _ _ ?_)
 refine sx_seq fun K24 k24 => sx_region ?_
 refine sp rfl (px_field rfl xfld27x0) ?_
 have f26 := (f8.ext c13).ext c18
 refine sp rfl (px_load rfl (f26.loadA (vs := [.bool (ng x1), v1]) (look_lit rfl) Try.isAgg25 Try.sizeOf25)) ?_
 refine sp rfl (px_field rfl xfld27x1) ?_
 refine sp rfl (px_load rfl (f26.load1 rfl Try.isAgg23)) ?_
 refine mv rfl rfl ?_
 have f28 := (f10.ext c13).ext c18
 have f30 := (f12.ext c13).ext c18
 refine sx_call rfl rfl Try.call34 (c_roundQuotient f28 f30 (by omega) (by omega) (by omega) (by omega)) (fun v31 w31 p31 => ?_)
 obtain ⟨s31, rfl, os_31, c31⟩ := p31
 have zw31 := c31.size
 have f35 := ((fb4.ext c13).ext c18).ext c31
 refine sx_store (vs := [.bool (ng (rqI x1 e1 m)), s31]) rfl rfl f35 rfl Try.sizeOf25 (nbl rfl) (one_cons rfl (one_cons os_31.one one_nil)) (fun w32 sw32 fw32 cw32 => ?_)
 have zw32 := cw32.size
 have gw32 : Blk w32 b4 [.bool (ng (rqI x1 e1 m)), s31] 25 := fw32
 refine av rfl rfl (wl_nil (q_n (k24 _ _ ?_)))
 refine sx_sub (Sub.c 4 rfl (.c 5 rfl .nil)) ?_
 refine sx_retc ?_
 refine sx_ret2 Try.results8 ⟨_, rfl, gw32.loadA (vs := [.bool (ng (rqI x1 e1 m)), s31]) (look_lit rfl) Try.isAgg25 Try.sizeOf25⟩ rfl ?_
 have hrl := rRound_len (n := ng x1) (z := dg x1.natAbs) (y := dg e1) (m := m)
 rw [rRound_ok ⟨hR, hM⟩] at hrl ⊢
 have q36 := Chg.step (l := 0) (h := 0) (Chg.zero (l := 0) (h := 0) ((((cb2.t cb4).t c13).t c18).t c31)) cw32 (by omega)
 have f37 := os_31.chg cw32 (by omega)
 exact ⟨_, rfl, (Own.mono f37 (by omega) (by omega)), hrl, q36⟩

theorem c_iRatRoundK {w : World} {va : Value} {lva uva : Nat} {x : Int} {vd : Value} {lvd uvd : Nat} {e : Nat} {m : Int} (hva : Sl w lva uva va (dg x.natAbs)) (hvd : Sl w lvd uvd vd (dg e)) (hR : ROk (ng x) (dg x.natAbs) (dg e)) (hm : 0 ≤ m ∧ m ≤ 6) :
  Ret Try.prog 8 [.agg #[.bool (ng x), va, vd], .int .i64 m] w fun v w' => ∃ s, v = .tuple #[.agg #[.bool (ng (rqI x e m)), s], .bool (true)] ∧ OwnI w' w.heap.size w'.heap.size s intT (dg (rqI x e m).natAbs) ∧ ((dg (rqI x e m).natAbs).length ≤ 19) ∧ Chg 0 0 w w' := by
 have hi := ROk_iff.1 hR; have h := c_iRatRound (n1 := ng x) hva hvd (m := m) (by omega); rw [rRound_ok ⟨hR, hm⟩] at h; exact h

theorem c_intNeg {w : World} {va : Value} {lva uva : Nat} {x : Int} (hva : Sl w lva uva va (dg x.natAbs)) (hbx : (dg x.natAbs).length ≤ 1000) :
  Ret Try.prog 39 [.agg #[.bool (ng x), va]] w fun v w' => ∃ s, v = .agg #[.bool (ng (-x)), s] ∧ OwnI w' w.heap.size w'.heap.size s intT (dg (-x).natAbs) ∧ Chg 0 0 w w' := by
 have hva0 := hva.fit
 refine sx_enter Try.func39 rfl Try.ntmps39 (nbl rfl) ?_
 refine sx_seq fun K1 k1 => sx_region ?_
 refine sx_box [.bool (ng x), va] rfl rfl rfl (fun b2 w3 eb2 sb2 fb2 cb2 => ?_)
 have zw3 := cb2.size
 refine sx_alloc [.bool false, (.slice none 0 0)] rfl Try.zeroValue25 rfl (fun b4 w5 eb4 sb4 fb4 cb4 => ?_)
 have zw5 := cb4.size
 refine wl_nil (q_n (k1 _ _ ?_))
 refine sx_seq fun K6 k6 => ?_
 have f7 := fb2.ext cb4
 have f8 := hva0.ext cb2
 have f9 := f8.ext cb4
 refine dx_region (fun w' => Chg b4 (b4 + 1) w5 w') (by kernel_rfl) (Chg.zero (Chg.drew _)) ?_
 have d10 := Chg.drew w5
 have s10 : Chg b4 (b4 + 1) w5 (World.drew w5) := Chg.zero (Chg.drew _)
 have y10 : (World.drew w5).heap.size = w5.heap.size := rfl
 generalize World.drew w5 = w10 at *
 have zw10 := d10.size
 refine dt 0 rfl rfl rfl rfl s10 (fun _ hS => px_field rfl xfld25x0) ?_
 refine dt 1 rfl rfl rfl rfl s10 (fun _ hS => px_load rfl ((f7.chg hS (by omega)).load1 rfl Try.isAgg4)) ?_
 refine dt 2 rfl rfl rfl rfl s10 (fun _ hS => px_not rfl) ?_
 refine dt 3 rfl rfl rfl rfl s10 (fun _ hS => px_field rfl xfld25x1) ?_
 refine dt 4 rfl rfl rfl rfl s10 (fun _ hS => px_load rfl ((f7.chg hS (by omega)).load1 rfl Try.isAgg23)) ?_
 refine dx_eff 5 rfl (by kernel_rfl) ?_
 have f11 := f9.ext d10
 refine sx_call rfl rfl Try.call63 (c_natCopy f11 (by omega)) (fun v12 w12 p12 => ?_)
 obtain ⟨s12, rfl, os_12, c12⟩ := p12
 have zw12 := c12.size
 have s13 : Chg b4 (b4 + 1) w5 w12 := (Chg.zero (l := b4) (h := (b4 + 1)) (d10.t c12))
 refine wl_nil ?_
 refine dx_next s13 ?_
 refine dx_eff 6 rfl (by kernel_rfl) ?_
 refine sx_call rfl rfl Try.call68 (c_signed os_12.sv (by omega)) (fun v14 w14 p14 => ?_)
 obtain ⟨rfl, c14⟩ := p14
 have zw14 := c14.size
 have s15 : Chg b4 (b4 + 1) w5 w14 := (Chg.zero (l := b4) (h := (b4 + 1)) ((d10.t c12).t c14))
 refine wl_nil ?_
 refine dx_next s15 ?_
 refine dx_eff 7 rfl (by kernel_rfl) ?_
 have f19 := ((fb4.ext d10).ext c12).ext c14
 have f20 := os_12.ext c14
 refine sx_store (vs := [.bool (nz (!(ng x)) (dg x.natAbs)), v12]) rfl rfl f19 rfl Try.sizeOf25 (nbl rfl) (one_cons rfl (one_cons f20.one one_nil)) (fun w16 sw16 fw16 cw16 => ?_)
 have zw16 := cw16.size
 have gw16 : Blk w16 b4 [.bool (nz (!(ng x)) (dg x.natAbs)), v12] 25 := fw16
 have q22 := Chg.step (l := b4) (h := (b4 + 1)) (Chg.zero (l := b4) (h := (b4 + 1)) ((d10.t c12).t c14)) cw16 (by omega)
 have s21 : Chg b4 (b4 + 1) w5 w16 := q22
 refine wl_nil ?_
 refine dx_next s21 ?_
 refine dx_done (by kernel_rfl) ?_
 refine q_n (k6 _ _ ?_)
 refine sx_retc ?_
 refine sx_ret1 Try.results39 ⟨_, rfl, gw16.loadA (vs := [.bool (nz (!(ng x)) (dg x.natAbs)), v12]) (look_lit rfl) Try.isAgg25 Try.sizeOf25⟩ ?_
 have hh := neg_sg x
 rw [← hh.1, ← hh.2]
 have q23 := Chg.step (l := 0) (h := 0) (Chg.zero (l := 0) (h := 0) ((((cb2.t cb4).t d10).t c12).t c14)) cw16 (by omega)
 have f24 := f20.chg cw16 (by omega)
 exact ⟨_, rfl, (Own.mono f24 (by omega) (by omega)), q23⟩

theorem c_ratNeg {w : World} {va : Value} {lva uva : Nat} {x : Int} {vd : Value} {lvd uvd : Nat} {yy : List Int} (hva : Sl w lva uva va (dg x.natAbs)) (hvd : Sl w lvd uvd vd (yy)) (hbx : (dg x.natAbs).length ≤ 1000) (h63 : yy.length ≤ 1048576) :
  Ret Try.prog 32 [.agg #[.bool (ng x), va, vd]] w fun v w' => ∃ s t ls us lt ut, v = .agg #[.bool (ng (-x)), s, t] ∧ OwnI w' (ls) (us) s intT (dg (-x).natAbs) ∧ OwnI w' (lt) (ut) t intT (yy) ∧ (w.heap.size ≤ ls ∧ us ≤ w'.heap.size ∧ w.heap.size ≤ lt ∧ ut ≤ w'.heap.size ∧ (us ≤ lt ∨ ut ≤ ls)) ∧ Chg 0 0 w w' := by
 have hva0 := hva.fit
 have hvd0 := hvd.fit
 refine sx_enter Try.func32 rfl Try.ntmps32 (nbl rfl) ?_
 refine sx_seq fun K1 k1 => sx_region ?_
 refine sx_box [.bool (ng x), va, vd] rfl rfl rfl (fun b2 w3 eb2 sb2 fb2 cb2 => ?_)
 have zw3 := cb2.size
 refine sx_alloc [.bool false, (.slice none 0 0), (.slice none 0 0)] rfl Try.zeroValue27 rfl (fun b4 w5 eb4 sb4 fb4 cb4 => ?_)
 have zw5 := cb4.size
 refine wl_nil (q_n (k1 _ _ ?_))
 refine sx_seq fun K6 k6 => ?_
 have f7 := fb2.ext cb4
 have f8 := hva0.ext cb2
 have f9 := f8.ext cb4
 have f10 := hvd0.ext cb2
 have f11 := f10.ext cb4
 refine dx_region (fun w' => Chg b4 (b4 + 1) w5 w') (by kernel_rfl) (Chg.zero (Chg.drew _)) ?_
 have d12 := Chg.drew w5
 have s12 : Chg b4 (b4 + 1) w5 (World.drew w5) := Chg.zero (Chg.drew _)
 have y12 : (World.drew w5).heap.size = w5.heap.size := rfl
 generalize World.drew w5 = w12 at *
 have zw12 := d12.size
 refine dt 0 rfl rfl rfl rfl s12 (fun _ hS => px_field rfl xfld27x0) ?_
 refine dt 1 rfl rfl rfl rfl s12 (fun _ hS => px_load rfl ((f7.chg hS (by omega)).loadA (vs := [.bool (ng x), va]) (look_lit rfl) Try.isAgg25 Try.sizeOf25)) ?_
 refine dt 3 rfl rfl rfl rfl s12 (fun _ hS => px_field rfl xfld27x1) ?_
 refine dt 4 rfl rfl rfl rfl s12 (fun _ hS => px_load rfl ((f7.chg hS (by omega)).load1 rfl Try.isAgg23)) ?_
 refine dx_eff 2 rfl (by kernel_rfl) ?_
 have f13 := f9.ext d12
 refine sx_call rfl rfl Try.call39 (c_intNeg f13 (by omega)) (fun v14 w14 p14 => ?_)
 obtain ⟨s14, rfl, os_14, c14⟩ := p14
 have zw14 := c14.size
 have s15 : Chg b4 (b4 + 1) w5 w14 := (Chg.zero (l := b4) (h := (b4 + 1)) (d12.t c14))
 refine wl_nil ?_
 refine dx_next s15 ?_
 refine dx_eff 5 rfl (by kernel_rfl) ?_
 have f17 := (f11.ext d12).ext c14
 refine sx_call rfl rfl Try.call63 (c_natCopy f17 (by omega)) (fun v18 w18 p18 => ?_)
 obtain ⟨s18, rfl, os_18, c18⟩ := p18
 have zw18 := c18.size
 have s19 : Chg b4 (b4 + 1) w5 w18 := (Chg.zero (l := b4) (h := (b4 + 1)) ((d12.t c14).t c18))
 refine wl_nil ?_
 refine dx_next s19 ?_
 refine dt 6 rfl rfl rfl rfl s19 (fun _ hS => px_build rfl (xbld27x0x1 os_18.one _)) ?_
 refine dx_eff 7 rfl (by kernel_rfl) ?_
 have f23 := ((fb4.ext d12).ext c14).ext c18
 have f24 := os_14.ext c18
 refine sx_store (vs := [.bool (ng (-x)), s14, v18]) rfl rfl f23 rfl Try.sizeOf27 (nbl rfl) (one_cons rfl (one_cons f24.one (one_cons os_18.one one_nil))) (fun w20 sw20 fw20 cw20 => ?_)
 have zw20 := cw20.size
 have gw20 : Blk w20 b4 [.bool (ng (-x)), s14, v18] 27 := fw20
 have q26 := Chg.step (l := b4) (h := (b4 + 1)) (Chg.zero (l := b4) (h := (b4 + 1)) ((d12.t c14).t c18)) cw20 (by omega)
 have s25 : Chg b4 (b4 + 1) w5 w20 := q26
 refine wl_nil ?_
 refine dx_next s25 ?_
 refine dx_done (by kernel_rfl) ?_
 refine q_n (k6 _ _ ?_)
 refine sx_retc ?_
 refine sx_ret1 Try.results32 ⟨_, rfl, gw20.loadA (vs := [.bool (ng (-x)), s14, v18]) (look_lit rfl) Try.isAgg27 Try.sizeOf27⟩ ?_
 have q27 := Chg.step (l := 0) (h := 0) (Chg.zero (l := 0) (h := 0) ((((cb2.t cb4).t d12).t c14).t c18)) cw20 (by omega)
 have f28 := f24.chg cw20 (by omega)
 have f29 := os_18.chg cw20 (by omega)
 exact ⟨_, _, _, _, _, _, rfl, f28, f29, by omega, q27⟩

theorem c_natSub {w : World} {va : Value} {lva uva : Nat} {m : Nat} {vb : Value} {lvb uvb : Nat} {n : Nat} (hva : Sl w lva uva va (dg m)) (hvb : Sl w lvb uvb vb (dg n)) (hbm : (dg m).length ≤ 1000) (hbn : (dg n).length ≤ 1000) (hle : n ≤ m) :
  Ret Try.prog 78 [va, vb] w fun v w' => ∃ s, v = s ∧ OwnI w' w.heap.size w'.heap.size s intT (dg (m - n)) ∧ Chg 0 0 w w' := by
 have hva0 := hva.fit
 have hvb0 := hvb.fit
 refine sx_enter Try.func78 rfl Try.ntmps78 (nbl rfl) ?_
 refine sx_seq fun K1 k1 => sx_region ?_
 refine av rfl rfl (wl_nil (q_n (k1 _ _ ?_)))
 refine sx_seq fun K2 k2 => sx_region ?_
 refine mv rfl rfl (sp rfl (px_len rfl Try.underlying23 hva0) ?_)
 refine sx_make (c := (dg m).length) rfl xelt23 (rfl) (rfl) (by omega) (by unfold maxLen; omega) (fun s3 ws3 fs3 cs3 ls3 => ?_)
 have ns3 := fs3.made
 have zws3 := cs3.size
 refine av rfl rfl (wl_nil (q_n (k2 _ _ ?_)))
 refine sx_seq fun K4 k4 => sx_region ?_
 refine av rfl rfl (wl_nil (q_n (k4 _ _ ?_)))
 refine sx_seq fun K5 k5 => ?_
 refine sx_seq fun K6 k6 => sx_region ?_
 refine mv rfl rfl ?_
 have f7 := hva0.ext cs3
 refine sp rfl (px_len rfl Try.underlying23 f7) ?_
 refine mv rfl rfl (wl_nil (q_n (k6 _ _ ?_)))
 refine sx_block ?_
 refine sx_loop (fun mm aa w' => ∃ (k : Nat) (os : List Int) (c : Nat), Agr 44 [(0, va), (1, vb), (5, s3), (6, .int .i64 ((c : Nat) : Int)), (13, .int .i64 (↑(dg m).length)), (14, .int .i64 ↑k)] aa ∧ Chg w.heap.size ws3.heap.size ws3 w' ∧ Own w' w.heap.size ws3.heap.size s3 intT os.length 1 (os.map (Value.int .i64)) ∧ (mm = (dg m).length - k) ∧ (os.length = (dg m).length) ∧ (Lm os) ∧ (c ≤ 1) ∧ (k ≤ (dg m).length) ∧ (vl ((dg m).take k) + Bs ^ k * c = vl (os.take k) + vl ((dg n).take k))) (_) (fun a ha => ⟨0, List.replicate (dg m).length 0, 0, ha.sub (Sub.c 0 rfl (.c 1 rfl (.c 5 rfl (.c 6 (look_int (t := 6) rfl (by first | omega | simp)) (.c 13 (look_int (t := 13) rfl (by first | omega | simp)) (.c 14 (look_int (t := 14) rfl (by first | omega | simp)) .nil)))))), Chg.refl _ _ _, (ns3.mono (by omega) (by omega)), rfl, by simp, Lm.replicate _, by omega, by omega, by simp [vl]⟩) ?_
 rintro mm aa wl8 ⟨k, os, c, hAwl8, cwl8, hs_s3, hm, hos, hlm, hc, hk, hv⟩
 refine (show cw Try.prog 44 _ _ _ wl8 from ?_) aa hAwl8
 clear hAwl8
 have zwl8 := cwl8.size
 have am := (Lm_dg m).getD k
 have bn := (Lm_dg n).getD k
 refine sx_seq fun K9 k9 => sx_region ?_
 refine sp rfl (px_lt rfl rfl) ?_
 refine wl_nil (q_n (k9 _ _ ?_))
 refine sx_seq fun K10 k10 => ?_
 refine sx_condP rfl (fun h122 => ?_) (fun h122 => ?_)
 ·
  refine sx_skip ?_
  refine q_n (k10 _ _ ?_)
  refine sx_seq fun K11 k11 => ?_
  refine sx_block ?_
  refine sx_seq fun K12 k12 => sx_region ?_
  refine mv rfl rfl (av rfl rfl (wl_nil (q_n (k12 _ _ ?_))))
  refine sx_seq fun K13 k13 => sx_region ?_
  refine mv rfl rfl (mv rfl rfl ?_)
  have f14 := f7.chg cwl8 (by omega)
  refine sp rfl (px_index1 (j := k) rfl rfl (by omega) Try.underlying23 Try.sizeOf3 f14 (by omega)) ?_
  refine sp rfl (px_load rfl (f14.load1 (at_int (by omega)) Try.isAgg3)) ?_
  refine mv rfl rfl (sp rfl (px_sub rfl rfl (by omega)) ?_)
  refine av rfl rfl (wl_nil (q_n (k13 _ _ ?_)))
  refine sx_sub (Sub.c 0 rfl (.c 1 rfl (.c 5 rfl (.c 6 rfl (.c 7 rfl (.c 8 rfl (.c 13 rfl (.c 14 rfl .nil)))))))) ?_
  refine sx_seq fun K15 k15 => ?_
  refine sx_seq fun K16 k16 => sx_region ?_
  refine mv rfl rfl (mv rfl rfl ?_)
  have f17 := hvb0.ext cs3
  have f18 := f17.chg cwl8 (by omega)
  refine sp rfl (px_len rfl Try.underlying23 f18) ?_
  refine sp rfl (px_lt rfl rfl) ?_
  refine wl_nil (q_n (k16 _ _ ?_))
  refine sx_condP rfl (fun h124 => ?_) (fun h124 => ?_)
  ·
   refine sx_region ?_
   refine mv rfl rfl (mv rfl rfl (mv rfl rfl (sp rfl (px_index1 (j := k) rfl rfl (by omega) Try.underlying23 Try.sizeOf3 f18 (by omega)) ?_)))
   refine sp rfl (px_load rfl (f18.load1 (at_int (by omega)) Try.isAgg3)) ?_
   refine sp rfl (px_sub rfl rfl (by omega)) ?_
   refine av rfl rfl (wl_nil (q_n (k15 _ _ ?_)))
   refine sx_sub (Sub.c 0 rfl (.c 1 rfl (.c 5 rfl (.c 6 rfl (.c 7 rfl (.c 8 rfl (.c 13 rfl (.c 14 rfl .nil)))))))) ?_
   refine sx_seq fun K19 k19 => sx_region ?_
   refine av rfl rfl (wl_nil (q_n (k19 _ _ ?_)))
   refine sx_seq fun K20 k20 => ?_
   refine sx_seq fun K21 k21 => sx_region ?_
   refine mv rfl rfl (sp rfl (px_lt rfl rfl) ?_)
   refine wl_nil (q_n (k21 _ _ ?_))
   refine sx_condP rfl (fun h128 => ?_) (fun h128 => ?_)
   ·
    refine sx_seq fun K22 k22 => sx_region ?_
    refine mv rfl rfl (sp rfl (px_add rfl rfl (by omega)) ?_)
    refine av rfl rfl (wl_nil (q_n (k22 _ _ ?_)))
    refine sx_region ?_
    refine av rfl rfl (wl_nil (q_n (k20 _ _ ?_)))
    refine sx_region ?_
    refine mv rfl rfl (mv rfl rfl (mv rfl rfl (sp rfl (px_index1 (j := k) rfl rfl (by omega) Try.underlying23 Try.sizeOf3 hs_s3.sv (by omega)) ?_)))
    refine sx_storeO rfl rfl hs_s3 (by first | omega | (simp only [List.length_map]; omega)) Try.sizeOf3 rfl (fun w23 sw23 fw23 cw23 => ?_)
    have zw23 := cw23.size
    have nw23 := fw23.set
    refine wl_nil ?_
    refine q_bn (q_n (k11 _ _ ?_))
    refine sx_sub (Sub.c 0 rfl (.c 1 rfl (.c 5 rfl (.c 6 rfl (.c 13 rfl (.c 14 rfl .nil)))))) ?_
    refine sx_region ?_
    refine sp rfl (px_add rfl rfl (by omega)) ?_
    refine mv rfl rfl (wl_nil ?_)
    have q24 := Chg.step (l := w.heap.size) (h := ws3.heap.size) cwl8 cw23 (by omega)
    have hs : ((dg m).getD k 0).toNat + Bs * 1 = ((dg n).getD k 0).toNat + c + ((((((dg m).getD k 0) - ((c : Nat) : Int)) - ((dg n).getD k 0)) + 1000000000) : Int).toNat := by simp only [Bs]; omega
    have hv2 : vl ((dg m).take (k + 1)) + Bs ^ (k + 1) * 1 = vl ((os.set k ((((((dg m).getD k 0) - ((c : Nat) : Int)) - ((dg n).getD k 0)) + 1000000000))).take (k + 1)) + vl ((dg n).take (k + 1)) := by
     rw [vl_take_set (by omega), vl_take_succ', vl_take_succ', Nat.pow_succ]
     exact sub_step hs hv
    exact fun a ha => ⟨_, by omega, (k + 1), ((os).set k (((((dg m).getD k 0) - ((c : Nat) : Int)) - ((dg n).getD k 0)) + 1000000000)), 1, ha.sub (Sub.c 0 rfl (.c 1 rfl (.c 5 rfl (.c 6 (look_int (t := 6) rfl (by first | omega | simp)) (.c 13 rfl (.c 14 (look_int (t := 14) rfl (by first | omega | simp)) .nil)))))), q24, (nw23.mono (by omega) (by omega)), rfl, by simp [hos], hlm.set k (by omega) (by omega), by omega, by omega, hv2⟩
   refine sx_skip ?_
   refine q_n (k20 _ _ ?_)
   refine sx_region ?_
   refine mv rfl rfl (mv rfl rfl (mv rfl rfl (sp rfl (px_index1 (j := k) rfl rfl (by omega) Try.underlying23 Try.sizeOf3 hs_s3.sv (by omega)) ?_)))
   refine sx_storeO rfl rfl hs_s3 (by first | omega | (simp only [List.length_map]; omega)) Try.sizeOf3 rfl (fun w25 sw25 fw25 cw25 => ?_)
   have zw25 := cw25.size
   have nw25 := fw25.set
   refine wl_nil ?_
   refine q_bn (q_n (k11 _ _ ?_))
   refine sx_region ?_
   refine sp rfl (px_add rfl rfl (by omega)) ?_
   refine mv rfl rfl (wl_nil ?_)
   have q26 := Chg.step (l := w.heap.size) (h := ws3.heap.size) cwl8 cw25 (by omega)
   have hs : ((dg m).getD k 0).toNat + Bs * 0 = ((dg n).getD k 0).toNat + c + (((((dg m).getD k 0) - ((c : Nat) : Int)) - ((dg n).getD k 0)) : Int).toNat := by simp only [Bs]; omega
   have hv2 : vl ((dg m).take (k + 1)) + Bs ^ (k + 1) * 0 = vl ((os.set k (((((dg m).getD k 0) - ((c : Nat) : Int)) - ((dg n).getD k 0)))).take (k + 1)) + vl ((dg n).take (k + 1)) := by
    rw [vl_take_set (by omega), vl_take_succ', vl_take_succ', Nat.pow_succ]
    exact sub_step hs hv
   exact fun a ha => ⟨_, by omega, (k + 1), ((os).set k ((((dg m).getD k 0) - ((c : Nat) : Int)) - ((dg n).getD k 0))), 0, ha.sub (Sub.c 0 rfl (.c 1 rfl (.c 5 rfl (.c 6 (look_int (t := 6) rfl (by first | omega | simp)) (.c 13 rfl (.c 14 (look_int (t := 14) rfl (by first | omega | simp)) .nil)))))), q26, (nw25.mono (by omega) (by omega)), rfl, by simp [hos], hlm.set k (by omega) (by omega), by omega, by omega, hv2⟩
  have gn := getD_ge (zs := dg n) (k := k) (by omega)
  refine sx_skip ?_
  refine q_n (k15 _ _ ?_)
  refine sx_seq fun K27 k27 => sx_region ?_
  refine av rfl rfl (wl_nil (q_n (k27 _ _ ?_)))
  refine sx_seq fun K28 k28 => ?_
  refine sx_seq fun K29 k29 => sx_region ?_
  refine mv rfl rfl (sp rfl (px_lt rfl rfl) ?_)
  refine wl_nil (q_n (k29 _ _ ?_))
  refine sx_condP rfl (fun h128 => ?_) (fun h128 => ?_)
  ·
   refine sx_seq fun K30 k30 => sx_region ?_
   refine mv rfl rfl (sp rfl (px_add rfl rfl (by omega)) ?_)
   refine av rfl rfl (wl_nil (q_n (k30 _ _ ?_)))
   refine sx_sub (Sub.c 0 rfl (.c 1 rfl (.c 5 rfl (.c 6 rfl (.c 7 rfl (.c 8 rfl (.c 13 rfl (.c 14 rfl .nil)))))))) ?_
   refine sx_region ?_
   refine av rfl rfl (wl_nil (q_n (k28 _ _ ?_)))
   refine sx_region ?_
   refine mv rfl rfl (mv rfl rfl (mv rfl rfl (sp rfl (px_index1 (j := k) rfl rfl (by omega) Try.underlying23 Try.sizeOf3 hs_s3.sv (by omega)) ?_)))
   refine sx_storeO rfl rfl hs_s3 (by first | omega | (simp only [List.length_map]; omega)) Try.sizeOf3 rfl (fun w31 sw31 fw31 cw31 => ?_)
   have zw31 := cw31.size
   have nw31 := fw31.set
   refine wl_nil ?_
   refine q_bn (q_n (k11 _ _ ?_))
   refine sx_region ?_
   refine sp rfl (px_add rfl rfl (by omega)) ?_
   refine mv rfl rfl (wl_nil ?_)
   have q32 := Chg.step (l := w.heap.size) (h := ws3.heap.size) cwl8 cw31 (by omega)
   have hs : ((dg m).getD k 0).toNat + Bs * 1 = ((dg n).getD k 0).toNat + c + (((((dg m).getD k 0) - ((c : Nat) : Int)) + 1000000000) : Int).toNat := by simp only [Bs]; omega
   have hv2 : vl ((dg m).take (k + 1)) + Bs ^ (k + 1) * 1 = vl ((os.set k (((((dg m).getD k 0) - ((c : Nat) : Int)) + 1000000000))).take (k + 1)) + vl ((dg n).take (k + 1)) := by
    rw [vl_take_set (by omega), vl_take_succ', vl_take_succ', Nat.pow_succ]
    exact sub_step hs hv
   exact fun a ha => ⟨_, by omega, (k + 1), ((os).set k ((((dg m).getD k 0) - ((c : Nat) : Int)) + 1000000000)), 1, ha.sub (Sub.c 0 rfl (.c 1 rfl (.c 5 rfl (.c 6 (look_int (t := 6) rfl (by first | omega | simp)) (.c 13 rfl (.c 14 (look_int (t := 14) rfl (by first | omega | simp)) .nil)))))), q32, (nw31.mono (by omega) (by omega)), rfl, by simp [hos], hlm.set k (by omega) (by omega), by omega, by omega, hv2⟩
  refine sx_skip ?_
  refine q_n (k28 _ _ ?_)
  refine sx_region ?_
  refine mv rfl rfl (mv rfl rfl (mv rfl rfl (sp rfl (px_index1 (j := k) rfl rfl (by omega) Try.underlying23 Try.sizeOf3 hs_s3.sv (by omega)) ?_)))
  refine sx_storeO rfl rfl hs_s3 (by first | omega | (simp only [List.length_map]; omega)) Try.sizeOf3 rfl (fun w33 sw33 fw33 cw33 => ?_)
  have zw33 := cw33.size
  have nw33 := fw33.set
  refine wl_nil ?_
  refine q_bn (q_n (k11 _ _ ?_))
  refine sx_sub (Sub.c 0 rfl (.c 1 rfl (.c 5 rfl (.c 6 rfl (.c 13 rfl (.c 14 rfl .nil)))))) ?_
  refine sx_region ?_
  refine sp rfl (px_add rfl rfl (by omega)) ?_
  refine mv rfl rfl (wl_nil ?_)
  have q34 := Chg.step (l := w.heap.size) (h := ws3.heap.size) cwl8 cw33 (by omega)
  have hs : ((dg m).getD k 0).toNat + Bs * 0 = ((dg n).getD k 0).toNat + c + ((((dg m).getD k 0) - ((c : Nat) : Int)) : Int).toNat := by simp only [Bs]; omega
  have hv2 : vl ((dg m).take (k + 1)) + Bs ^ (k + 1) * 0 = vl ((os.set k ((((dg m).getD k 0) - ((c : Nat) : Int)))).take (k + 1)) + vl ((dg n).take (k + 1)) := by
   rw [vl_take_set (by omega), vl_take_succ', vl_take_succ', Nat.pow_succ]
   exact sub_step hs hv
  exact fun a ha => ⟨_, by omega, (k + 1), ((os).set k (((dg m).getD k 0) - ((c : Nat) : Int))), 0, ha.sub (Sub.c 0 rfl (.c 1 rfl (.c 5 rfl (.c 6 (look_int (t := 6) rfl (by first | omega | simp)) (.c 13 rfl (.c 14 (look_int (t := 14) rfl (by first | omega | simp)) .nil)))))), q34, (nw33.mono (by omega) (by omega)), rfl, by simp [hos], hlm.set k (by omega) (by omega), by omega, by omega, hv2⟩
 refine sx_exit ?_
 refine q_e (q_e (q_bx (q_n (k5 _ _ ?_))))
 refine sx_seq fun K35 k35 => ?_
 have ek : k = (dg m).length := by omega
 have hnm := len_le hle
 subst ek
 rw [List.take_length, vl_dg, vl_take_ge (show (dg n).length ≤ (dg m).length from hnm), vl_dg, ← hos, List.take_length] at hv
 have hend := sub_end hv hle (vl_lt hlm) hc
 have hvv := hend.2
 have hz := hlm
 refine sx_region ?_
 refine mv rfl rfl (sx_call rfl rfl Try.call79 (c_trim hs_s3 (by assumption) (by first | omega | (simp only [List.length_append, List.length_set, List.length_replicate, List.length_cons, List.length_nil] at *; omega))) (fun v36 w36 p36 => ?_))
 obtain ⟨s36, rfl, os_36, c36⟩ := p36
 have zw36 := c36.size
 refine av rfl rfl (wl_nil (q_n (k35 _ _ ?_)))
 refine sx_retc ?_
 refine sx_ret1 Try.results78 rfl ?_
 have hr := os_36
 rw [hvv] at hr
 have q37 := Chg.step (l := 0) (h := 0) (Chg.zero (l := 0) (h := 0) cs3) cwl8 (by omega)
 have q38 := Chg.step (l := 0) (h := 0) q37 c36 (by omega)
 exact ⟨_, rfl, hr.mono (by omega) (by omega), q38⟩

theorem c_intAdd {w : World} {va : Value} {lva uva : Nat} {x : Int} {vb : Value} {lvb uvb : Nat} {y : Int} (hva : Sl w lva uva va (dg x.natAbs)) (hvb : Sl w lvb uvb vb (dg y.natAbs)) (hbx : (dg x.natAbs).length ≤ 1000) (hby : (dg y.natAbs).length ≤ 1000) :
  Ret Try.prog 47 [.agg #[.bool (ng x), va], .agg #[.bool (ng y), vb]] w fun v w' => ∃ s, v = .agg #[.bool (ng (x + y)), s] ∧ OwnI w' w.heap.size w'.heap.size s intT (dg (x + y).natAbs) ∧ Chg 0 0 w w' := by
 have hva0 := hva.fit
 have hvb0 := hvb.fit
 have l2 := len_add x.natAbs y.natAbs
 have l3 := len_le (Nat.sub_le x.natAbs y.natAbs)
 have l4 := len_le (Nat.sub_le y.natAbs x.natAbs)
 refine sx_enter Try.func47 rfl Try.ntmps47 (nbl rfl) ?_
 refine sx_seq fun K1 k1 => sx_region ?_
 refine sx_box [.bool (ng x), va] rfl rfl rfl (fun b2 w3 eb2 sb2 fb2 cb2 => ?_)
 have zw3 := cb2.size
 refine sx_box [.bool (ng y), vb] rfl rfl rfl (fun b4 w5 eb4 sb4 fb4 cb4 => ?_)
 have zw5 := cb4.size
 refine sx_alloc [.bool false, (.slice none 0 0)] rfl Try.zeroValue25 rfl (fun b6 w7 eb6 sb6 fb6 cb6 => ?_)
 have zw7 := cb6.size
 refine wl_nil (q_n (k1 _ _ ?_))
 refine sx_seq fun K8 k8 => ?_
 refine sx_seq fun K9 k9 => sx_region ?_
 refine sp rfl (px_field rfl xfld25x0) ?_
 have f10 := fb2.ext cb4
 have f11 := f10.ext cb6
 refine sp rfl (px_load rfl (f11.load1 rfl Try.isAgg4)) ?_
 refine sp rfl (px_field rfl xfld25x0) ?_
 have f12 := fb4.ext cb6
 refine sp rfl (px_load rfl (f12.load1 rfl Try.isAgg4)) ?_
 refine sp rfl (px_eqB Try.underlying4 rfl rfl) ?_
 refine wl_nil (q_n (k9 _ _ ?_))
 refine sx_condB rfl (fun h46 => ?_) (fun h46 => ?_)
 ·
  refine sx_seq fun K13 k13 => ?_
  have f14 := hva0.ext cb2
  have f15 := f14.ext cb4
  have f16 := f15.ext cb6
  have f17 := hvb0.ext cb2
  have f18 := f17.ext cb4
  have f19 := f18.ext cb6
  refine dx_region (fun w' => Chg b6 (b6 + 1) w7 w') (by kernel_rfl) (Chg.zero (Chg.drew _)) ?_
  have d20 := Chg.drew w7
  have s20 : Chg b6 (b6 + 1) w7 (World.drew w7) := Chg.zero (Chg.drew _)
  have y20 : (World.drew w7).heap.size = w7.heap.size := rfl
  generalize World.drew w7 = w20 at *
  have zw20 := d20.size
  refine dt 0 rfl rfl rfl rfl s20 (fun _ hS => px_field rfl xfld25x0) ?_
  refine dt 1 rfl rfl rfl rfl s20 (fun _ hS => px_load rfl ((f11.chg hS (by omega)).load1 rfl Try.isAgg4)) ?_
  refine dt 2 rfl rfl rfl rfl s20 (fun _ hS => px_field rfl xfld25x1) ?_
  refine dt 3 rfl rfl rfl rfl s20 (fun _ hS => px_load rfl ((f11.chg hS (by omega)).load1 rfl Try.isAgg23)) ?_
  refine dt 4 rfl rfl rfl rfl s20 (fun _ hS => px_field rfl xfld25x1) ?_
  refine dt 5 rfl rfl rfl rfl s20 (fun _ hS => px_load rfl ((f12.chg hS (by omega)).load1 rfl Try.isAgg23)) ?_
  refine dx_eff 6 rfl (by kernel_rfl) ?_
  have f21 := f16.ext d20
  have f22 := f19.ext d20
  refine sx_call rfl rfl Try.call66 (c_natAdd f21 f22 (by omega) (by omega)) (fun v23 w23 p23 => ?_)
  obtain ⟨s23, rfl, os_23, c23⟩ := p23
  have zw23 := c23.size
  have s24 : Chg b6 (b6 + 1) w7 w23 := (Chg.zero (l := b6) (h := (b6 + 1)) (d20.t c23))
  refine wl_nil ?_
  refine dx_next s24 ?_
  refine dx_eff 7 rfl (by kernel_rfl) ?_
  refine sx_call rfl rfl Try.call68 (c_signed os_23.sv (by omega)) (fun v25 w25 p25 => ?_)
  obtain ⟨rfl, c25⟩ := p25
  have zw25 := c25.size
  have s26 : Chg b6 (b6 + 1) w7 w25 := (Chg.zero (l := b6) (h := (b6 + 1)) ((d20.t c23).t c25))
  refine wl_nil ?_
  refine dx_next s26 ?_
  refine dx_eff 8 rfl (by kernel_rfl) ?_
  have f30 := ((fb6.ext d20).ext c23).ext c25
  have f31 := os_23.ext c25
  refine sx_store (vs := [.bool (nz (ng x) (dg (x.natAbs + y.natAbs))), v23]) rfl rfl f30 rfl Try.sizeOf25 (nbl rfl) (one_cons rfl (one_cons f31.one one_nil)) (fun w27 sw27 fw27 cw27 => ?_)
  have zw27 := cw27.size
  have gw27 : Blk w27 b6 [.bool (nz (ng x) (dg (x.natAbs + y.natAbs))), v23] 25 := fw27
  have q33 := Chg.step (l := b6) (h := (b6 + 1)) (Chg.zero (l := b6) (h := (b6 + 1)) ((d20.t c23).t c25)) cw27 (by omega)
  have s32 : Chg b6 (b6 + 1) w7 w27 := q33
  refine wl_nil ?_
  refine dx_next s32 ?_
  refine dx_done (by kernel_rfl) ?_
  refine q_n (k13 _ _ ?_)
  refine sx_sub (Sub.c 2 rfl (.c 3 rfl (.c 4 rfl .nil))) ?_
  refine sx_retc ?_
  refine q_r (sx_ret1 Try.results47 ⟨_, rfl, gw27.loadA (vs := [.bool (nz (ng x) (dg (x.natAbs + y.natAbs))), v23]) (look_lit rfl) Try.isAgg25 Try.sizeOf25⟩ ?_)
  have hh := add_sg h46
  rw [← hh.1, ← hh.2]
  have f34 := f31.chg cw27 (by omega)
  have q35 := Chg.step (l := 0) (h := 0) (Chg.zero (l := 0) (h := 0) (((((cb2.t cb4).t cb6).t d20).t c23).t c25)) cw27 (by omega)
  exact ⟨_, rfl, (Own.mono f34 (by omega) (by omega)), q35⟩
 refine sx_skip ?_
 refine q_n (k8 _ _ ?_)
 refine sx_seq fun K36 k36 => ?_
 refine sx_seq fun K37 k37 => sx_region ?_
 refine sp rfl (px_field rfl xfld25x1) ?_
 refine sp rfl (px_load rfl (f11.load1 rfl Try.isAgg23)) ?_
 refine sp rfl (px_field rfl xfld25x1) ?_
 refine sp rfl (px_load rfl (f12.load1 rfl Try.isAgg23)) ?_
 have f38 := hva0.ext cb2
 have f39 := f38.ext cb4
 have f40 := f39.ext cb6
 have f41 := hvb0.ext cb2
 have f42 := f41.ext cb4
 have f43 := f42.ext cb6
 refine sx_call rfl rfl Try.call65 (c_natCmp f40 f43 (by omega)) (fun v44 w44 p44 => ?_)
 obtain ⟨rfl, c44⟩ := p44
 have zw44 := c44.size
 refine sp rfl (px_lt rfl rfl) ?_
 refine wl_nil (q_n (k37 _ _ ?_))
 refine sx_sub (Sub.c 2 rfl (.c 3 rfl (.c 4 rfl (.c 23 rfl .nil)))) ?_
 refine sx_condP rfl (fun h49 => ?_) (fun h49 => ?_)
 ·
  rw [cmpL_dg] at h49
  have hlt := cmpN_neg.1 h49
  refine sx_region ?_
  have f45 := f12.ext c44
  refine sp rfl (px_load rfl (f45.loadA (vs := [.bool (ng y), vb]) (look_lit rfl) Try.isAgg25 Try.sizeOf25)) ?_
  have f46 := f11.ext c44
  refine sp rfl (px_load rfl (f46.loadA (vs := [.bool (ng x), va]) (look_lit rfl) Try.isAgg25 Try.sizeOf25)) ?_
  have f48 := f43.ext c44
  refine sx_store (vs := [.bool (ng y), vb]) rfl rfl f46 rfl Try.sizeOf25 (nbl rfl) (one_cons rfl (one_cons f48.one one_nil)) (fun w47 sw47 fw47 cw47 => ?_)
  have zw47 := cw47.size
  have gw47 : Blk w47 b2 [.bool (ng y), vb] 25 := fw47
  have f50 := f45.chg cw47 (by omega)
  have f52 := (f40.ext c44).chg cw47 (by omega)
  refine sx_store (vs := [.bool (ng x), va]) rfl rfl f50 rfl Try.sizeOf25 (nbl rfl) (one_cons rfl (one_cons f52.one one_nil)) (fun w49 sw49 fw49 cw49 => ?_)
  have zw49 := cw49.size
  have gw49 : Blk w49 b4 [.bool (ng x), va] 25 := fw49
  refine wl_nil (q_n (k36 _ _ ?_))
  refine sx_seq fun K53 k53 => ?_
  have f54 := gw47.chg cw49 (by omega)
  have f55 := f52.chg cw49 (by omega)
  have f56 := f48.chg cw47 (by omega)
  have f57 := f56.chg cw49 (by omega)
  refine dx_region (fun w' => Chg b6 (b6 + 1) w49 w') (by kernel_rfl) (Chg.zero (Chg.drew _)) ?_
  have d58 := Chg.drew w49
  have s58 : Chg b6 (b6 + 1) w49 (World.drew w49) := Chg.zero (Chg.drew _)
  have y58 : (World.drew w49).heap.size = w49.heap.size := rfl
  generalize World.drew w49 = w58 at *
  have zw58 := d58.size
  refine dt 0 rfl rfl rfl rfl s58 (fun _ hS => px_field rfl xfld25x0) ?_
  refine dt 1 rfl rfl rfl rfl s58 (fun _ hS => px_load rfl ((f54.chg hS (by omega)).load1 rfl Try.isAgg4)) ?_
  refine dt 2 rfl rfl rfl rfl s58 (fun _ hS => px_field rfl xfld25x1) ?_
  refine dt 3 rfl rfl rfl rfl s58 (fun _ hS => px_load rfl ((f54.chg hS (by omega)).load1 rfl Try.isAgg23)) ?_
  refine dt 4 rfl rfl rfl rfl s58 (fun _ hS => px_field rfl xfld25x1) ?_
  refine dt 5 rfl rfl rfl rfl s58 (fun _ hS => px_load rfl ((gw49.chg hS (by omega)).load1 rfl Try.isAgg23)) ?_
  refine dx_eff 6 rfl (by kernel_rfl) ?_
  have f59 := f57.ext d58
  have f60 := f55.ext d58
  refine sx_call rfl rfl Try.call78 (c_natSub f59 f60 (by omega) (by omega) (by omega)) (fun v61 w61 p61 => ?_)
  obtain ⟨s61, rfl, os_61, c61⟩ := p61
  have zw61 := c61.size
  have s62 : Chg b6 (b6 + 1) w49 w61 := (Chg.zero (l := b6) (h := (b6 + 1)) (d58.t c61))
  refine wl_nil ?_
  refine dx_next s62 ?_
  refine dx_eff 7 rfl (by kernel_rfl) ?_
  refine sx_call rfl rfl Try.call68 (c_signed os_61.sv (by omega)) (fun v63 w63 p63 => ?_)
  obtain ⟨rfl, c63⟩ := p63
  have zw63 := c63.size
  have s64 : Chg b6 (b6 + 1) w49 w63 := (Chg.zero (l := b6) (h := (b6 + 1)) ((d58.t c61).t c63))
  refine wl_nil ?_
  refine dx_next s64 ?_
  refine dx_eff 8 rfl (by kernel_rfl) ?_
  have f67 := (fb6.ext c44).chg cw47 (by omega)
  have f68 := f67.chg cw49 (by omega)
  have f71 := ((f68.ext d58).ext c61).ext c63
  have f72 := os_61.ext c63
  refine sx_store (vs := [.bool (nz (ng y) (dg (y.natAbs - x.natAbs))), v61]) rfl rfl f71 rfl Try.sizeOf25 (nbl rfl) (one_cons rfl (one_cons f72.one one_nil)) (fun w65 sw65 fw65 cw65 => ?_)
  have zw65 := cw65.size
  have gw65 : Blk w65 b6 [.bool (nz (ng y) (dg (y.natAbs - x.natAbs))), v61] 25 := fw65
  have q74 := Chg.step (l := b6) (h := (b6 + 1)) (Chg.zero (l := b6) (h := (b6 + 1)) ((d58.t c61).t c63)) cw65 (by omega)
  have s73 : Chg b6 (b6 + 1) w49 w65 := q74
  refine wl_nil ?_
  refine dx_next s73 ?_
  refine dx_done (by kernel_rfl) ?_
  refine q_n (k53 _ _ ?_)
  refine sx_retc ?_
  refine sx_ret1 Try.results47 ⟨_, rfl, gw65.loadA (vs := [.bool (nz (ng y) (dg (y.natAbs - x.natAbs))), v61]) (look_lit rfl) Try.isAgg25 Try.sizeOf25⟩ ?_
  have hh := (sub_sg2 h46 (by omega))
  rw [← hh.1, ← hh.2]
  have f75 := f72.chg cw65 (by omega)
  have q76 := Chg.step (l := 0) (h := 0) (Chg.zero (l := 0) (h := 0) (((cb2.t cb4).t cb6).t c44)) cw47 (by omega)
  have q77 := Chg.step (l := 0) (h := 0) q76 cw49 (by omega)
  have q78 := Chg.step (l := 0) (h := 0) q77 ((d58.t c61).t c63) (by omega)
  have q79 := Chg.step (l := 0) (h := 0) q78 cw65 (by omega)
  exact ⟨_, rfl, (Own.mono f75 (by omega) (by omega)), q79⟩
 rw [cmpL_dg] at h49
 have hge := cmpN_nonneg.1 (Int.not_lt.1 h49)
 refine sx_skip ?_
 refine q_n (k36 _ _ ?_)
 refine sx_seq fun K80 k80 => ?_
 have f81 := f11.ext c44
 have f82 := f12.ext c44
 refine dx_region (fun w' => Chg b6 (b6 + 1) w44 w') (by kernel_rfl) (Chg.zero (Chg.drew _)) ?_
 have d85 := Chg.drew w44
 have s85 : Chg b6 (b6 + 1) w44 (World.drew w44) := Chg.zero (Chg.drew _)
 have y85 : (World.drew w44).heap.size = w44.heap.size := rfl
 generalize World.drew w44 = w85 at *
 have zw85 := d85.size
 refine dt 0 rfl rfl rfl rfl s85 (fun _ hS => px_field rfl xfld25x0) ?_
 refine dt 1 rfl rfl rfl rfl s85 (fun _ hS => px_load rfl ((f81.chg hS (by omega)).load1 rfl Try.isAgg4)) ?_
 refine dt 2 rfl rfl rfl rfl s85 (fun _ hS => px_field rfl xfld25x1) ?_
 refine dt 3 rfl rfl rfl rfl s85 (fun _ hS => px_load rfl ((f81.chg hS (by omega)).load1 rfl Try.isAgg23)) ?_
 refine dt 4 rfl rfl rfl rfl s85 (fun _ hS => px_field rfl xfld25x1) ?_
 refine dt 5 rfl rfl rfl rfl s85 (fun _ hS => px_load rfl ((f82.chg hS (by omega)).load1 rfl Try.isAgg23)) ?_
 refine dx_eff 6 rfl (by kernel_rfl) ?_
 have f86 := (f40.ext c44).ext d85
 have f87 := (f43.ext c44).ext d85
 refine sx_call rfl rfl Try.call78 (c_natSub f86 f87 (by omega) (by omega) (by omega)) (fun v88 w88 p88 => ?_)
 obtain ⟨s88, rfl, os_88, c88⟩ := p88
 have zw88 := c88.size
 have s89 : Chg b6 (b6 + 1) w44 w88 := (Chg.zero (l := b6) (h := (b6 + 1)) (d85.t c88))
 refine wl_nil ?_
 refine dx_next s89 ?_
 refine dx_eff 7 rfl (by kernel_rfl) ?_
 refine sx_call rfl rfl Try.call68 (c_signed os_88.sv (by omega)) (fun v90 w90 p90 => ?_)
 obtain ⟨rfl, c90⟩ := p90
 have zw90 := c90.size
 have s91 : Chg b6 (b6 + 1) w44 w90 := (Chg.zero (l := b6) (h := (b6 + 1)) ((d85.t c88).t c90))
 refine wl_nil ?_
 refine dx_next s91 ?_
 refine dx_eff 8 rfl (by kernel_rfl) ?_
 have f96 := (((fb6.ext c44).ext d85).ext c88).ext c90
 have f97 := os_88.ext c90
 refine sx_store (vs := [.bool (nz (ng x) (dg (x.natAbs - y.natAbs))), v88]) rfl rfl f96 rfl Try.sizeOf25 (nbl rfl) (one_cons rfl (one_cons f97.one one_nil)) (fun w92 sw92 fw92 cw92 => ?_)
 have zw92 := cw92.size
 have gw92 : Blk w92 b6 [.bool (nz (ng x) (dg (x.natAbs - y.natAbs))), v88] 25 := fw92
 have q99 := Chg.step (l := b6) (h := (b6 + 1)) (Chg.zero (l := b6) (h := (b6 + 1)) ((d85.t c88).t c90)) cw92 (by omega)
 have s98 : Chg b6 (b6 + 1) w44 w92 := q99
 refine wl_nil ?_
 refine dx_next s98 ?_
 refine dx_done (by kernel_rfl) ?_
 refine q_n (k80 _ _ ?_)
 refine sx_retc ?_
 refine sx_ret1 Try.results47 ⟨_, rfl, gw92.loadA (vs := [.bool (nz (ng x) (dg (x.natAbs - y.natAbs))), v88]) (look_lit rfl) Try.isAgg25 Try.sizeOf25⟩ ?_
 have hh := sub_sg h46 hge
 rw [← hh.1, ← hh.2]
 have f100 := f97.chg cw92 (by omega)
 have q101 := Chg.step (l := 0) (h := 0) (Chg.zero (l := 0) (h := 0) ((((((cb2.t cb4).t cb6).t c44).t d85).t c88).t c90)) cw92 (by omega)
 exact ⟨_, rfl, (Own.mono f100 (by omega) (by omega)), q101⟩

theorem c_intSign {w : World} {va : Value} {lva uva : Nat} {x : Int} (hva : Sl w lva uva va (dg x.natAbs)) (hbx : (dg x.natAbs).length ≤ 1000) :
  Ret Try.prog 52 [.agg #[.bool (ng x), va]] w fun v w' => v = .int .i64 ((x).sign) ∧ Chg 0 0 w w' := by
 have hva0 := hva.fit
 refine sx_enter Try.func52 rfl Try.ntmps52 (nbl rfl) ?_
 refine sx_seq fun K1 k1 => sx_region ?_
 refine sx_box [.bool (ng x), va] rfl rfl rfl (fun b2 w3 eb2 sb2 fb2 cb2 => ?_)
 have zw3 := cb2.size
 refine av rfl rfl (wl_nil (q_n (k1 _ _ ?_)))
 refine sx_seq fun K4 k4 => ?_
 refine sx_block ?_
 refine sx_seq fun K5 k5 => sx_region ?_
 refine sp rfl (px_field rfl xfld25x1) ?_
 refine sp rfl (px_load rfl (fb2.load1 rfl Try.isAgg23)) ?_
 have f6 := hva0.ext cb2
 refine sp rfl (px_len rfl Try.underlying23 f6) ?_
 refine sp rfl (px_eq rfl rfl) ?_
 refine av rfl rfl (wl_nil (q_n (k5 _ _ ?_)))
 refine sx_condP rfl (fun h101 => ?_) (fun h101 => ?_)
 ·
  refine sx_seq fun K7 k7 => sx_region ?_
  refine av rfl rfl (wl_nil (q_n (k7 _ _ ?_)))
  refine sx_retc ?_
  refine q_br (q_r (sx_ret1 Try.results52 rfl ?_))
  exact ⟨(by rw [sign_z (by omega)]), cb2⟩
 refine sx_seq fun K8 k8 => sx_region ?_
 refine sp rfl (px_field rfl xfld25x0) ?_
 refine sp rfl (px_load rfl (fb2.load1 rfl Try.isAgg4)) ?_
 refine av rfl rfl (wl_nil (q_n (k8 _ _ ?_)))
 refine sx_condB rfl (fun h103 => ?_) (fun h103 => ?_)
 ·
  refine sx_seq fun K9 k9 => sx_region ?_
  refine av rfl rfl (wl_nil (q_n (k9 _ _ ?_)))
  refine sx_retc ?_
  refine q_br (q_r (sx_ret1 Try.results52 rfl ?_))
  exact ⟨(by rw [sign_n h103]), cb2⟩
 refine sx_skip ?_
 refine q_bn (q_n (k4 _ _ ?_))
 refine sx_seq fun K10 k10 => sx_region ?_
 refine av rfl rfl (wl_nil (q_n (k10 _ _ ?_)))
 refine sx_retc ?_
 refine sx_ret1 Try.results52 rfl ?_
 exact ⟨(by rw [sign_p (by omega) h103]), cb2⟩

theorem c_intCmp {w : World} {va : Value} {lva uva : Nat} {x : Int} {vb : Value} {lvb uvb : Nat} {y : Int} (hva : Sl w lva uva va (dg x.natAbs)) (hvb : Sl w lvb uvb vb (dg y.natAbs)) (hbx : (dg x.natAbs).length ≤ 900) (hby : (dg y.natAbs).length ≤ 900) :
  Ret Try.prog 37 [.agg #[.bool (ng x), va], .agg #[.bool (ng y), vb]] w fun v w' => v = .int .i64 (cmpI x y) ∧ Chg 0 0 w w' := by
 have hva0 := hva.fit
 have hvb0 := hvb.fit
 refine sx_enter Try.func37 rfl Try.ntmps37 (nbl rfl) ?_
 refine sx_seq fun K1 k1 => sx_region ?_
 refine sx_box [.bool (ng x), va] rfl rfl rfl (fun b2 w3 eb2 sb2 fb2 cb2 => ?_)
 have zw3 := cb2.size
 refine sx_box [.bool (ng y), vb] rfl rfl rfl (fun b4 w5 eb4 sb4 fb4 cb4 => ?_)
 have zw5 := cb4.size
 refine av rfl rfl (wl_nil (q_n (k1 _ _ ?_)))
 refine sx_seq fun K6 k6 => ?_
 have f7 := fb2.ext cb4
 have f8 := hva0.ext cb2
 have f9 := f8.ext cb4
 have f10 := hvb0.ext cb2
 have f11 := f10.ext cb4
 refine dx_region (fun w' => Chg 0 0 w5 w') (by kernel_rfl) (Chg.zero (Chg.drew _)) ?_
 have d12 := Chg.drew w5
 have s12 : Chg 0 0 w5 (World.drew w5) := Chg.zero (Chg.drew _)
 have y12 : (World.drew w5).heap.size = w5.heap.size := rfl
 generalize World.drew w5 = w12 at *
 have zw12 := d12.size
 refine dt 0 rfl rfl rfl rfl s12 (fun _ hS => px_load rfl ((f7.chg hS (by omega)).loadA (vs := [.bool (ng x), va]) (look_lit rfl) Try.isAgg25 Try.sizeOf25)) ?_
 refine dt 1 rfl rfl rfl rfl s12 (fun _ hS => px_load rfl ((fb4.chg hS (by omega)).loadA (vs := [.bool (ng y), vb]) (look_lit rfl) Try.isAgg25 Try.sizeOf25)) ?_
 refine dx_eff 2 rfl (by kernel_rfl) ?_
 have f13 := f11.ext d12
 refine sx_call rfl rfl Try.call39 (c_intNeg f13 (by omega)) (fun v14 w14 p14 => ?_)
 obtain ⟨s14, rfl, os_14, c14⟩ := p14
 have zw14 := c14.size
 have s15 : Chg 0 0 w5 w14 := (d12.t c14)
 refine wl_nil ?_
 refine dx_next s15 ?_
 refine dx_eff 3 rfl (by kernel_rfl) ?_
 have f17 := (f9.ext d12).ext c14
 refine sx_call rfl rfl Try.call47 (c_intAdd f17 os_14.sv (by omega) (by rw [Int.natAbs_neg]; omega)) (fun v18 w18 p18 => ?_)
 obtain ⟨s18, rfl, os_18, c18⟩ := p18
 have zw18 := c18.size
 have s19 : Chg 0 0 w5 w18 := ((d12.t c14).t c18)
 refine wl_nil ?_
 refine dx_next s19 ?_
 refine dx_eff 4 rfl (by kernel_rfl) ?_
 refine sx_call rfl rfl Try.call52 (c_intSign os_18.sv (by have h := len_addI x (-y); rw [Int.natAbs_neg] at h; omega)) (fun v20 w20 p20 => ?_)
 obtain ⟨rfl, c20⟩ := p20
 have zw20 := c20.size
 have s21 : Chg 0 0 w5 w20 := (((d12.t c14).t c18).t c20)
 refine wl_nil ?_
 refine dx_next s21 ?_
 refine dt 5 rfl rfl rfl rfl s21 (fun _ hS => px_assign rfl) ?_
 refine dx_done (by kernel_rfl) ?_
 refine q_n (k6 _ _ ?_)
 refine sx_retc ?_
 refine sx_ret1 Try.results37 rfl ?_
 exact ⟨(by rw [cmpI_sign]), (((((cb2.t cb4).t d12).t c14).t c18).t c20)⟩

theorem c_sNatGcd {w : World} {va : Value} {lva uva : Nat} {m : Nat} {vb : Value} {lvb uvb : Nat} {n : Nat} (hva : Sl w lva uva va (dg m)) (hvb : Sl w lvb uvb vb (dg n)) (hbm : (dg m).length ≤ 50) (hbn : (dg n).length ≤ 50) :
  Ret Try.prog 81 [va, vb] w fun v w' => ∃ s, v = s ∧ Sl w' (0) (w'.heap.size) s (dg (Nat.gcd m n)) ∧ Chg 0 0 w w' := by
 have hva0 := hva.fit
 have hvb0 := hvb.fit
 refine sx_enter Try.func81 rfl Try.ntmps81 (nbl rfl) ?_
 refine sx_seq fun K1 k1 => sx_region ?_
 refine av rfl rfl (wl_nil (q_n (k1 _ _ ?_)))
 refine sx_seq fun K2 k2 => ?_
 refine sx_seq fun K3 k3 => sx_region ?_
 refine mv rfl rfl (sx_call rfl rfl Try.call40 (c_sNatOk hva0 (by omega)) (fun v4 w4 p4 => ?_))
 obtain ⟨rfl, c4⟩ := p4
 have zw4 := c4.size
 refine sp rfl (px_notP rfl) ?_
 refine mv rfl rfl ?_
 have h61 : ¬ (¬ (NOk (dg m))) := fun h => h (NOk_dg (by omega))
 refine sx_tmpPF (t := 12) rfl h61 ?_
 refine sx_guardT rfl rfl rfl ?_
 refine mv rfl rfl ?_
 refine sx_guardT rfl rfl rfl ?_
 have f5 := hvb0.ext c4
 refine sx_call rfl rfl Try.call40 (c_sNatOk f5 (by omega)) (fun v6 w6 p6 => ?_)
 obtain ⟨rfl, c6⟩ := p6
 have zw6 := c6.size
 refine sx_guardT rfl rfl rfl ?_
 refine sp rfl (px_notP rfl) ?_
 refine sp rfl (px_pick rfl rfl) ?_
 refine wl_nil (q_n (k3 _ _ ?_))
 have h61x1 : ¬ (¬ (NOk (dg n))) := fun h => h (NOk_dg (by omega))
 refine sx_condPF rfl h61x1 ?_
 refine sx_skip ?_
 refine q_n (k2 _ _ ?_)
 refine sx_seq fun K7 k7 => sx_region ?_
 refine sx_lit0 rfl xelt23 (fun s8 ws8 ss8 fs8 cs8 => ?_)
 have zws8 := cs8.size
 refine mv rfl rfl ?_
 have f12 := ((hva0.ext c4).ext c6).ext cs8
 refine sx_append rfl xelt23 rfl rfl fs8 f12 one_int (by omega) (by first | omega | (simp only [List.length_nil]; omega)) (by unfold maxLen; first | omega | (simp only [List.length_nil]; omega)) (fun a9 w9 fw9 cw9 => ?_)
 have nw9 := Own.norm (f := (Value.int .i64)) (zs := dg m) fw9
 have zw9 := cw9.size
 refine av rfl rfl (wl_nil (q_n (k7 _ _ ?_)))
 refine sx_sub (Sub.c 1 rfl (.c 4 rfl (.c 5 rfl .nil))) ?_
 refine sx_seq fun K13 k13 => sx_region ?_
 refine sx_lit0 rfl xelt23 (fun s14 ws14 ss14 fs14 cs14 => ?_)
 have zws14 := cs14.size
 refine mv rfl rfl ?_
 have f17 := (f5.ext c6).ext cs8
 have f18 := f17.chg cw9 (by omega)
 have f19 := f18.ext cs14
 refine sx_append rfl xelt23 rfl rfl fs14 f19 one_int (by omega) (by first | omega | (simp only [List.length_nil]; omega)) (by unfold maxLen; first | omega | (simp only [List.length_nil]; omega)) (fun a15 w15 fw15 cw15 => ?_)
 have nw15 := Own.norm (f := (Value.int .i64)) (zs := dg n) fw15
 have zw15 := cw15.size
 refine av rfl rfl (wl_nil (q_n (k13 _ _ ?_)))
 refine sx_seq fun K20 k20 => ?_
 refine sx_block ?_
 have f22 := nw9.ext cs14
 have f23 := f22.chg cw15 (by omega)
 refine sx_loop (fun mm aa w' => ∃ (xa : Value) (xb : Value) (m2 : Nat) (n2 : Nat), Agr 35 [(5, xa), (6, xb)] aa ∧ Chg 0 0 w15 w' ∧ Sv w' 0 w'.heap.size xa ((dg m2).length) 1 ((dg m2).map (Value.int .i64)) ∧ Sv w' 0 w'.heap.size xb ((dg n2).length) 1 ((dg n2).map (Value.int .i64)) ∧ (mm = n2) ∧ (Nat.gcd m2 n2 = Nat.gcd m n) ∧ ((dg m2).length ≤ 400 ∧ (dg n2).length ≤ 400)) (_) (fun a ha => ⟨a9, a15, m, n, ha.sub (Sub.c 5 rfl (.c 6 rfl .nil)), Chg.refl _ _ _, (f23.sv.mono (by omega) (by omega)), (nw15.sv.mono (by omega) (by omega)), rfl, rfl, by omega⟩) ?_
 rintro mm aa wl21 ⟨xa, xb, m2, n2, hAwl21, cwl21, hs_xa, hs_xb, hm, hg, hl2⟩
 refine (show cw Try.prog 35 _ _ _ wl21 from ?_) aa hAwl21
 clear hAwl21
 have zwl21 := cwl21.size
 refine sx_seq fun K24 k24 => ?_
 refine sx_seq fun K25 k25 => sx_region ?_
 refine mv rfl rfl (sp rfl (px_len rfl Try.underlying23 hs_xb) ?_)
 refine sp rfl (px_gt rfl rfl) ?_
 refine wl_nil (q_n (k25 _ _ ?_))
 refine sx_condP rfl (fun h66 => ?_) (fun h66 => ?_)
 ·
  have hn0 : 0 < n2 := len_pos.1 (by omega)
  refine sx_skip ?_
  refine q_n (k24 _ _ ?_)
  refine sx_block ?_
  refine sx_seq fun K26 k26 => sx_region ?_
  refine mv rfl rfl (mv rfl rfl (sx_call rfl rfl Try.call84 (c_l03Div hs_xa hs_xb (by omega) (by omega) (by omega)) (fun v27 w27 p27 => ?_)))
  obtain ⟨s27, t27, rfl, os_27, ot_27, c27⟩ := p27
  have zw27 := c27.size
  refine mv rfl rfl (sp rfl (px_ex2 rfl rfl) ?_)
  refine sp rfl (px_ex2 rfl rfl) ?_
  refine av rfl rfl (av rfl rfl (wl_nil (q_n (k26 _ _ ?_))))
  refine sx_seq fun K28 k28 => sx_region ?_
  refine mv rfl rfl (av rfl rfl (wl_nil (q_n (k28 _ _ ?_))))
  refine sx_region ?_
  refine mv rfl rfl (av rfl rfl (wl_nil ?_))
  have f29 := hs_xb.ext c27
  have hml := Nat.mod_lt m2 hn0
  have hll := len_mod (m := m2) hn0
  exact q_bn (fun a ha => ⟨_, by omega, xb, t27, n2, (m2 % n2), ha.sub (Sub.c 5 rfl (.c 6 rfl .nil)), (cwl21.t c27), (f29.mono (by omega) (by omega)), (ot_27.mono (by omega) (by omega)), rfl, gcd_next.trans hg, by omega⟩)
 refine sx_exit ?_
 refine q_e (q_e (q_bx (q_n (k20 _ _ ?_))))
 refine sx_seq fun K30 k30 => sx_region ?_
 refine mv rfl rfl (av rfl rfl (wl_nil (q_n (k30 _ _ ?_))))
 refine sx_retc ?_
 refine sx_ret1 Try.results81 rfl ?_
 have e0 : n2 = 0 := len_zero.1 (by omega)
 subst e0
 rw [Nat.gcd_zero_right] at hg
 rw [← hg]
 have q31 := Chg.step (l := 0) (h := 0) (Chg.zero (l := 0) (h := 0) ((c4.t c6).t cs8)) cw9 (by omega)
 have q32 := Chg.step (l := 0) (h := 0) q31 cs14 (by omega)
 have q33 := Chg.step (l := 0) (h := 0) q32 cw15 (by omega)
 have q34 := Chg.step (l := 0) (h := 0) q33 cwl21 (by omega)
 exact ⟨_, rfl, (Sv.mono hs_xa (by omega) (by omega)), q34⟩

theorem c_sRatOk {w : World} {n1 : Bool} {v1 : Value} {lv1 uv1 : Nat} {z1 : List Int} {d1 : Value} {ld1 ud1 : Nat} {y1 : List Int} (hv1 : Sl w lv1 uv1 v1 (z1)) (hd1 : Sl w ld1 ud1 d1 (y1)) (h63 : z1.length ≤ 4611686018427387904 ∧ y1.length ≤ 4611686018427387904) :
  Ret Try.prog 49 [.agg #[.bool n1, v1, d1]] w fun v w' => v = .bool (decide (ROk n1 z1 y1)) ∧ Chg 0 0 w w' := by
 have hv10 := hv1.fit
 have hd10 := hd1.fit
 refine sx_enter Try.func49 rfl Try.ntmps49 (nbl rfl) ?_
 refine sx_seq fun K1 k1 => sx_region ?_
 refine sx_box [.bool n1, v1, d1] rfl rfl rfl (fun b2 w3 eb2 sb2 fb2 cb2 => ?_)
 have zw3 := cb2.size
 refine av rfl rfl (wl_nil (q_n (k1 _ _ ?_)))
 refine sx_seq fun K4 k4 => ?_
 refine sx_seq fun K5 k5 => sx_region ?_
 refine sp rfl (px_field rfl xfld27x0) ?_
 refine sp rfl (px_load rfl (fb2.loadA (vs := [.bool n1, v1]) (look_lit rfl) Try.isAgg25 Try.sizeOf25)) ?_
 have f6 := hv10.ext cb2
 refine sx_call rfl rfl Try.call53 (c_sIntOk f6 (by omega)) (fun v7 w7 p7 => ?_)
 obtain ⟨rfl, c7⟩ := p7
 have zw7 := c7.size
 refine sp rfl (px_notP rfl) ?_
 refine mv rfl rfl ?_
 refine sx_tmpP (t := 7) rfl (fun h7 => ?_) (fun h7 => ?_)
 ·
  refine sx_guardF rfl rfl rfl rfl rfl rfl ?_
  refine sx_guardF rfl rfl rfl rfl rfl rfl ?_
  refine sx_guardF rfl rfl rfl rfl rfl rfl ?_
  refine sx_guardF rfl rfl rfl rfl rfl rfl ?_
  refine sp rfl (px_pick rfl rfl) ?_
  refine mv rfl rfl ?_
  refine sx_guardF rfl rfl rfl rfl rfl rfl ?_
  refine sx_guardF rfl rfl rfl rfl rfl rfl ?_
  refine sx_guardF rfl rfl rfl rfl rfl rfl ?_
  refine sx_guardF rfl rfl rfl rfl rfl rfl ?_
  refine sp rfl (px_pick rfl rfl) ?_
  refine mv rfl rfl ?_
  refine sx_guardF rfl rfl rfl rfl rfl rfl ?_
  refine sx_guardF rfl rfl rfl rfl rfl rfl ?_
  refine sx_guardF rfl rfl rfl rfl rfl rfl ?_
  refine sx_guardF rfl rfl rfl rfl rfl rfl ?_
  refine sp rfl (px_pick rfl rfl) ?_
  refine mv rfl rfl ?_
  refine sx_guardF rfl rfl rfl rfl rfl rfl ?_
  refine sx_guardF rfl rfl rfl rfl rfl rfl ?_
  refine sx_guardF rfl rfl rfl rfl rfl rfl ?_
  refine sx_guardF rfl rfl rfl rfl rfl rfl ?_
  refine sx_guardF rfl rfl rfl rfl rfl rfl ?_
  refine sp rfl (px_pick rfl rfl) ?_
  refine wl_nil (q_n (k5 _ _ ?_))
  refine sx_sub (Sub.c 1 rfl (.c 2 rfl (.c 31 rfl .nil))) ?_
  refine sx_condT rfl ?_
  refine sx_seq fun K8 k8 => sx_region ?_
  refine av rfl rfl (wl_nil (q_n (k8 _ _ ?_)))
  refine sx_retc ?_
  refine q_r (sx_ret1 Try.results49 rfl ?_)
  exact ⟨(bFalse (by grind [ROk])), (cb2.t c7)⟩
 refine sx_guardT rfl rfl rfl ?_
 refine sp rfl (px_field rfl xfld27x1) ?_
 refine sx_guardT rfl rfl rfl ?_
 have f9 := fb2.ext c7
 refine sp rfl (px_load rfl (f9.load1 rfl Try.isAgg23)) ?_
 refine sx_guardT rfl rfl rfl ?_
 have f10 := hd10.ext cb2
 have f11 := f10.ext c7
 refine sx_call rfl rfl Try.call40 (c_sNatOk f11 (by omega)) (fun v12 w12 p12 => ?_)
 obtain ⟨rfl, c12⟩ := p12
 have zw12 := c12.size
 refine sx_guardT rfl rfl rfl ?_
 refine sp rfl (px_notP rfl) ?_
 refine sp rfl (px_pick rfl rfl) ?_
 refine mv rfl rfl ?_
 refine sx_tmpP (t := 13) rfl (fun h7x1 => ?_) (fun h7x1 => ?_)
 ·
  refine sx_guardF rfl rfl rfl rfl rfl rfl ?_
  refine sx_guardF rfl rfl rfl rfl rfl rfl ?_
  refine sx_guardF rfl rfl rfl rfl rfl rfl ?_
  refine sx_guardF rfl rfl rfl rfl rfl rfl ?_
  refine sp rfl (px_pick rfl rfl) ?_
  refine mv rfl rfl ?_
  refine sx_guardF rfl rfl rfl rfl rfl rfl ?_
  refine sx_guardF rfl rfl rfl rfl rfl rfl ?_
  refine sx_guardF rfl rfl rfl rfl rfl rfl ?_
  refine sx_guardF rfl rfl rfl rfl rfl rfl ?_
  refine sp rfl (px_pick rfl rfl) ?_
  refine mv rfl rfl ?_
  refine sx_guardF rfl rfl rfl rfl rfl rfl ?_
  refine sx_guardF rfl rfl rfl rfl rfl rfl ?_
  refine sx_guardF rfl rfl rfl rfl rfl rfl ?_
  refine sx_guardF rfl rfl rfl rfl rfl rfl ?_
  refine sx_guardF rfl rfl rfl rfl rfl rfl ?_
  refine sp rfl (px_pick rfl rfl) ?_
  refine wl_nil (q_n (k5 _ _ ?_))
  refine sx_sub (Sub.c 1 rfl (.c 2 rfl (.c 31 rfl .nil))) ?_
  refine sx_condT rfl ?_
  refine sx_seq fun K13 k13 => sx_region ?_
  refine av rfl rfl (wl_nil (q_n (k13 _ _ ?_)))
  refine sx_retc ?_
  refine q_r (sx_ret1 Try.results49 rfl ?_)
  exact ⟨(bFalse (by grind [ROk])), ((cb2.t c7).t c12)⟩
 refine sx_guardT rfl rfl rfl ?_
 refine sp rfl (px_field rfl xfld27x1) ?_
 refine sx_guardT rfl rfl rfl ?_
 have f14 := f9.ext c12
 refine sp rfl (px_load rfl (f14.load1 rfl Try.isAgg23)) ?_
 refine sx_guardT rfl rfl rfl ?_
 have f15 := f11.ext c12
 refine sp rfl (px_len rfl Try.underlying23 f15) ?_
 refine sx_guardT rfl rfl rfl ?_
 refine sp rfl (px_eq rfl rfl) ?_
 refine sp rfl (px_pick rfl rfl) ?_
 refine mv rfl rfl ?_
 refine sx_tmpP (t := 19) rfl (fun h7x2 => ?_) (fun h7x2 => ?_)
 ·
  refine sx_guardF rfl rfl rfl rfl rfl rfl ?_
  refine sx_guardF rfl rfl rfl rfl rfl rfl ?_
  refine sx_guardF rfl rfl rfl rfl rfl rfl ?_
  refine sx_guardF rfl rfl rfl rfl rfl rfl ?_
  refine sp rfl (px_pick rfl rfl) ?_
  refine mv rfl rfl ?_
  refine sx_guardF rfl rfl rfl rfl rfl rfl ?_
  refine sx_guardF rfl rfl rfl rfl rfl rfl ?_
  refine sx_guardF rfl rfl rfl rfl rfl rfl ?_
  refine sx_guardF rfl rfl rfl rfl rfl rfl ?_
  refine sx_guardF rfl rfl rfl rfl rfl rfl ?_
  refine sp rfl (px_pick rfl rfl) ?_
  refine wl_nil (q_n (k5 _ _ ?_))
  refine sx_sub (Sub.c 1 rfl (.c 2 rfl (.c 31 rfl .nil))) ?_
  refine sx_condT rfl ?_
  refine sx_seq fun K16 k16 => sx_region ?_
  refine av rfl rfl (wl_nil (q_n (k16 _ _ ?_)))
  refine sx_retc ?_
  refine q_r (sx_ret1 Try.results49 rfl ?_)
  exact ⟨(bFalse (by grind [ROk])), ((cb2.t c7).t c12)⟩
 refine sx_guardT rfl rfl rfl ?_
 refine sp rfl (px_field rfl xfld27x1) ?_
 refine sx_guardT rfl rfl rfl ?_
 refine sp rfl (px_load rfl (f14.load1 rfl Try.isAgg23)) ?_
 refine sx_guardT rfl rfl rfl ?_
 refine sp rfl (px_len rfl Try.underlying23 f15) ?_
 refine sx_guardT rfl rfl rfl ?_
 refine sp rfl (px_gt rfl rfl) ?_
 refine sp rfl (px_pick rfl rfl) ?_
 refine mv rfl rfl ?_
 refine sx_tmpP (t := 25) rfl (fun h7x3 => ?_) (fun h7x3 => ?_)
 ·
  refine sx_guardF rfl rfl rfl rfl rfl rfl ?_
  refine sx_guardF rfl rfl rfl rfl rfl rfl ?_
  refine sx_guardF rfl rfl rfl rfl rfl rfl ?_
  refine sx_guardF rfl rfl rfl rfl rfl rfl ?_
  refine sx_guardF rfl rfl rfl rfl rfl rfl ?_
  refine sp rfl (px_pick rfl rfl) ?_
  refine wl_nil (q_n (k5 _ _ ?_))
  refine sx_sub (Sub.c 1 rfl (.c 2 rfl (.c 31 rfl .nil))) ?_
  refine sx_condT rfl ?_
  refine sx_seq fun K17 k17 => sx_region ?_
  refine av rfl rfl (wl_nil (q_n (k17 _ _ ?_)))
  refine sx_retc ?_
  refine q_r (sx_ret1 Try.results49 rfl ?_)
  exact ⟨(bFalse (by grind [ROk])), ((cb2.t c7).t c12)⟩
 refine sx_guardT rfl rfl rfl ?_
 refine sp rfl (px_field rfl xfld27x0) ?_
 refine sx_guardT rfl rfl rfl ?_
 refine sp rfl (px_field rfl xfld25x1) ?_
 refine sx_guardT rfl rfl rfl ?_
 refine sp rfl (px_load rfl (f14.load1 rfl Try.isAgg23)) ?_
 refine sx_guardT rfl rfl rfl ?_
 have f19 := (f6.ext c7).ext c12
 refine sp rfl (px_len rfl Try.underlying23 f19) ?_
 refine sx_guardT rfl rfl rfl ?_
 refine sp rfl (px_gt rfl rfl) ?_
 refine sp rfl (px_pick rfl rfl) ?_
 refine wl_nil (q_n (k5 _ _ ?_))
 refine sx_sub (Sub.c 1 rfl (.c 2 rfl (.c 31 rfl .nil))) ?_
 refine sx_condP rfl (fun h7x4 => ?_) (fun h7x4 => ?_)
 ·
  refine sx_seq fun K20 k20 => sx_region ?_
  refine av rfl rfl (wl_nil (q_n (k20 _ _ ?_)))
  refine sx_retc ?_
  refine q_r (sx_ret1 Try.results49 rfl ?_)
  exact ⟨(bFalse (by grind [ROk])), ((cb2.t c7).t c12)⟩
 have hR1 := Decidable.not_not.1 h7
 have hR2 := Decidable.not_not.1 h7x1
 obtain ⟨x1, rfl, rfl, hx1⟩ := hR1.int
 obtain ⟨e1, rfl, he1⟩ := hR2.dg
 have he0 : 0 < e1 := len_pos.1 (by omega)
 have hk : ROk (ng x1) (dg x1.natAbs) (dg e1) ↔ dg (Nat.gcd x1.natAbs e1) = [1] := by rw [ROk_iff, dg_is_one]; exact ⟨fun h => h.2.2.2, fun h => ⟨he0, by omega, by omega, h⟩⟩
 refine sx_skip ?_
 refine q_n (k4 _ _ ?_)
 refine sx_seq fun K21 k21 => sx_region ?_
 refine sp rfl (px_field rfl xfld27x0) ?_
 refine sp rfl (px_field rfl xfld25x1) ?_
 refine sp rfl (px_load rfl (f14.load1 rfl Try.isAgg23)) ?_
 refine sp rfl (px_field rfl xfld27x1) ?_
 refine sp rfl (px_load rfl (f14.load1 rfl Try.isAgg23)) ?_
 refine sx_call rfl rfl Try.call81 (c_sNatGcd f19 f15 (by omega) (by omega)) (fun v22 w22 p22 => ?_)
 obtain ⟨s22, rfl, os_22, c22⟩ := p22
 have zw22 := c22.size
 refine sx_lit1 rfl xelt23 rfl rfl (fun s23 ws23 ss23 fs23 cs23 => ?_)
 have ns23 := Own.norm (f := (Value.int .i64)) (zs := [1]) fs23
 have zws23 := cs23.size
 have f24 := os_22.ext cs23
 refine sx_call rfl rfl Try.call80 (c_l02Cmp f24 ns23.sv (by have h9 := gcd_le_left (m := x1.natAbs) (n := e1) (k := 50) (by omega) (by omega); simp only [List.length_cons, List.length_nil]; omega)) (fun v25 w25 p25 => ?_)
 obtain ⟨rfl, c25⟩ := p25
 have zw25 := c25.size
 refine sp rfl (px_eq rfl rfl) ?_
 refine av rfl rfl (wl_nil (q_n (k21 _ _ ?_)))
 refine sx_retc ?_
 refine sx_ret1 Try.results49 rfl ?_
 exact ⟨(bIff ⟨fun h => hk.2 (cmpL_zero.1 h), fun h => cmpL_zero.2 (hk.1 h)⟩), (((((cb2.t c7).t c12).t c22).t cs23).t c25)⟩

theorem c_iRatFloor {w : World} {n1 : Bool} {v1 : Value} {lv1 uv1 : Nat} {z1 : List Int} {d1 : Value} {ld1 ud1 : Nat} {y1 : List Int} (hv1 : Sl w lv1 uv1 v1 (z1)) (hd1 : Sl w ld1 ud1 d1 (y1)) (h63 : z1.length ≤ 4611686018427387904 ∧ y1.length ≤ 4611686018427387904) :
  Ret Try.prog 7 [.agg #[.bool n1, v1, d1]] w fun v w' => ∃ s, v = .tuple #[.agg #[.bool ((rRound n1 z1 y1 2).1), s], .bool ((rRound n1 z1 y1 2).2.2)] ∧ OwnI w' w.heap.size w'.heap.size s intT ((rRound n1 z1 y1 2).2.1) ∧ ((rRound n1 z1 y1 2).2.1.length ≤ 19) ∧ Chg 0 0 w w' := by
 have hv10 := hv1.fit
 have hd10 := hd1.fit
 refine sx_enter Try.func7 rfl Try.ntmps7 (nbl rfl) ?_
 refine sx_seq fun K1 k1 => sx_region ?_
 refine sx_box [.bool n1, v1, d1] rfl rfl rfl (fun b2 w3 eb2 sb2 fb2 cb2 => ?_)
 have zw3 := cb2.size
 refine sx_alloc [.bool false, (.slice none 0 0)] rfl Try.zeroValue25 rfl (fun b4 w5 eb4 sb4 fb4 cb4 => ?_)
 have zw5 := cb4.size
 refine av rfl rfl (wl_nil (q_n (k1 _ _ ?_)))
 refine sx_seq fun K6 k6 => sx_region ?_
 have f7 := fb2.ext cb4
 refine sp rfl (px_load rfl (f7.loadA (vs := [.bool n1, v1, d1]) (look_lit rfl) Try.isAgg27 Try.sizeOf27)) ?_
 have f8 := hv10.ext cb2
 have f9 := f8.ext cb4
 have f10 := hd10.ext cb2
 have f11 := f10.ext cb4
 refine sx_call rfl rfl Try.call8 (c_iRatRound f9 f11 (by omega)) (fun v12 w12 p12 => ?_)
 obtain ⟨s12, rfl, os_12, hl12, c12⟩ := p12
 have zw12 := c12.size
 refine sp rfl (px_ex2 rfl rfl) ?_
 refine sp rfl (px_ex2 rfl rfl) ?_
 have f14 := fb4.ext c12
 refine sx_store (vs := [.bool ((rRound n1 z1 y1 (2 : Int)).1), s12]) rfl rfl f14 rfl Try.sizeOf25 (nbl rfl) (one_cons rfl (one_cons os_12.one one_nil)) (fun w13 sw13 fw13 cw13 => ?_)
 have zw13 := cw13.size
 have gw13 : Blk w13 b4 [.bool ((rRound n1 z1 y1 (2 : Int)).1), s12] 25 := fw13
 refine av rfl rfl (wl_nil (q_n (k6 _ _ ?_)))
 refine sx_retc ?_
 refine sx_ret2 Try.results7 ⟨_, rfl, gw13.loadA (vs := [.bool ((rRound n1 z1 y1 (2 : Int)).1), s12]) (look_lit rfl) Try.isAgg25 Try.sizeOf25⟩ rfl ?_
 have q15 := Chg.step (l := 0) (h := 0) (Chg.zero (l := 0) (h := 0) ((cb2.t cb4).t c12)) cw13 (by omega)
 have f16 := os_12.chg cw13 (by omega)
 exact ⟨_, rfl, (Own.mono f16 (by omega) (by omega)), rRound_len, q15⟩

theorem c_iRatFloorK {w : World} {va : Value} {lva uva : Nat} {x : Int} {vd : Value} {lvd uvd : Nat} {e : Nat} (hva : Sl w lva uva va (dg x.natAbs)) (hvd : Sl w lvd uvd vd (dg e)) (hR : ROk (ng x) (dg x.natAbs) (dg e)) :
  Ret Try.prog 7 [.agg #[.bool (ng x), va, vd]] w fun v w' => ∃ s, v = .tuple #[.agg #[.bool (ng (rqI x e 2)), s], .bool (true)] ∧ OwnI w' w.heap.size w'.heap.size s intT (dg (rqI x e 2).natAbs) ∧ ((dg (rqI x e 2).natAbs).length ≤ 19) ∧ Chg 0 0 w w' := by
 have hi := ROk_iff.1 hR; have h := c_iRatFloor (n1 := ng x) hva hvd (by omega); rw [rRound_ok ⟨hR, by decide⟩] at h; exact h

theorem c_sNatEven {w : World} {va : Value} {lva uva : Nat} {m : Nat} (hva : Sl w lva uva va (dg m)) (hbm : (dg m).length ≤ 50) :
  Ret Try.prog 14 [va] w fun v w' => v = .bool (decide (¬ m % 2 = 1)) ∧ Chg 0 0 w w' := by
 have hva0 := hva.fit
 refine sx_enter Try.func14 rfl Try.ntmps14 (nbl rfl) ?_
 refine sx_seq fun K1 k1 => sx_region ?_
 refine av rfl rfl (wl_nil (q_n (k1 _ _ ?_)))
 refine sx_seq fun K2 k2 => sx_region ?_
 refine mv rfl rfl (sx_call rfl rfl Try.call40 (c_sNatOk hva0 (by omega)) (fun v3 w3 p3 => ?_))
 obtain ⟨rfl, c3⟩ := p3
 have zw3 := c3.size
 refine mv rfl rfl ?_
 have h117 : NOk (dg m) := NOk_dg (by omega)
 refine sx_tmpPT (t := 5) rfl h117 ?_
 refine sx_guardT rfl rfl rfl ?_
 refine mv rfl rfl ?_
 refine sx_guardT rfl rfl rfl ?_
 have f4 := hva0.ext c3
 refine sp rfl (px_len rfl Try.underlying23 f4) ?_
 refine sx_guardT rfl rfl rfl ?_
 refine sp rfl (px_eq rfl rfl) ?_
 refine sx_guardT rfl rfl rfl ?_
 refine mv rfl rfl ?_
 refine sx_tmpP (t := 9) rfl (fun h117x1 => ?_) (fun h117x1 => ?_)
 ·
  refine sx_guardF rfl rfl rfl rfl rfl rfl ?_
  refine sx_guardF rfl rfl rfl rfl rfl rfl ?_
  refine sx_guardF rfl rfl rfl rfl rfl rfl ?_
  refine sx_guardF rfl rfl rfl rfl rfl rfl ?_
  refine sx_guardF rfl rfl rfl rfl rfl rfl ?_
  refine sx_guardT rfl rfl rfl ?_
  refine sp rfl (px_pick rfl rfl) ?_
  refine sp rfl (px_pick rfl rfl) ?_
  refine av rfl rfl (wl_nil (q_n (k2 _ _ ?_)))
  refine sx_sub (Sub.c 2 rfl .nil) ?_
  refine sx_retc ?_
  refine sx_ret1 Try.results14 rfl ?_
  exact ⟨(by have hk := odd_dg (q := m); first | exact bTrue (hk.1 (.inl (by omega))) | exact bIff ⟨fun h => hk.1 (.inr h), fun h => (hk.2 h).resolve_left (by omega)⟩), c3⟩
 refine sx_guardT rfl rfl rfl ?_
 refine mv rfl rfl ?_
 refine sx_guardT rfl rfl rfl ?_
 refine sp rfl (px_index1 (j := 0) rfl rfl (by omega) Try.underlying23 Try.sizeOf3 f4 (by omega)) ?_
 refine sx_guardT rfl rfl rfl ?_
 refine sp rfl (px_load rfl (f4.load1 (at_int (by omega)) Try.isAgg3)) ?_
 refine sx_guardT rfl rfl rfl ?_
 refine sp rfl (px_rem rfl rfl (by have := (Lm_dg m).getD 0; omega) (by omega)) ?_
 refine sx_guardT rfl rfl rfl ?_
 refine sp rfl (px_eq rfl rfl) ?_
 refine sx_guardT rfl rfl rfl ?_
 refine sp rfl (px_pick rfl rfl) ?_
 refine sp rfl (px_pick rfl rfl) ?_
 refine av rfl rfl (wl_nil (q_n (k2 _ _ ?_)))
 refine sx_sub (Sub.c 2 rfl .nil) ?_
 refine sx_retc ?_
 refine sx_ret1 Try.results14 rfl ?_
 exact ⟨(by have hk := odd_dg (q := m); first | exact bTrue (hk.1 (.inl (by omega))) | exact bIff ⟨fun h => hk.1 (.inr h), fun h => (hk.2 h).resolve_left (by omega)⟩), c3⟩

theorem c_iIntOf {w : World} {n : Int} (hn : -9223372036854775808 ≤ n ∧ n ≤ 9223372036854775807) :
  Ret Try.prog 43 [.int .i64 n] w fun v w' => ∃ s, v = .agg #[.bool (ng n), s] ∧ OwnI w' w.heap.size w'.heap.size s intT (dg (n).natAbs) ∧ Chg 0 0 w w' := by
 refine sx_enter Try.func43 rfl Try.ntmps43 (nbl rfl) ?_
 refine sx_seq fun K1 k1 => sx_region ?_
 refine sx_alloc [.bool false, (.slice none 0 0)] rfl Try.zeroValue25 rfl (fun b2 w3 eb2 sb2 fb2 cb2 => ?_)
 have zw3 := cb2.size
 refine wl_nil (q_n (k1 _ _ ?_))
 refine sx_seq fun K4 k4 => ?_
 refine sx_seq fun K5 k5 => sx_region ?_
 refine mv rfl rfl (sp rfl (px_lt rfl rfl) ?_)
 refine wl_nil (q_n (k5 _ _ ?_))
 refine sx_condP rfl (fun h23 => ?_) (fun h23 => ?_)
 ·
  refine sx_seq fun K6 k6 => sx_region ?_
  refine mv rfl rfl (sp rfl (px_convUn Try.underlying3 Try.underlying88 rfl (by omega)) ?_)
  refine sp rfl (px_negU rfl (by omega)) ?_
  refine sx_call rfl rfl Try.call77 (c_natOf (by omega)) (fun v7 w7 p7 => ?_)
  obtain ⟨s7, rfl, os_7, c7⟩ := p7
  have zw7 := c7.size
  refine sp rfl (px_build rfl (xbld25x0x1 rfl os_7.one _)) ?_
  have f9 := fb2.ext c7
  refine sx_store (vs := [.bool true, v7]) rfl rfl f9 rfl Try.sizeOf25 (nbl rfl) (one_cons rfl (one_cons os_7.one one_nil)) (fun w8 sw8 fw8 cw8 => ?_)
  have zw8 := cw8.size
  have gw8 : Blk w8 b2 [.bool true, v7] 25 := fw8
  refine wl_nil (q_n (k6 _ _ ?_))
  refine sx_retc ?_
  refine q_r (sx_ret1 Try.results43 ⟨_, rfl, gw8.loadA (vs := [.bool true, v7]) (look_lit rfl) Try.isAgg25 Try.sizeOf25⟩ ?_)
  have e1 : (18446744073709551616 - (n + 18446744073709551616)).toNat = n.natAbs := by omega
  have e2 : ng n = true := ng_true.2 (by omega)
  rw [e2, ← e1]
  have q10 := Chg.step (l := 0) (h := 0) (Chg.zero (l := 0) (h := 0) (cb2.t c7)) cw8 (by omega)
  have f11 := os_7.chg cw8 (by omega)
  exact ⟨_, rfl, (Own.mono f11 (by omega) (by omega)), q10⟩
 refine sx_skip ?_
 refine q_n (k4 _ _ ?_)
 refine sx_seq fun K12 k12 => sx_region ?_
 refine mv rfl rfl (sp rfl (px_convU Try.underlying3 Try.underlying88 rfl (by omega)) ?_)
 refine sx_call rfl rfl Try.call77 (c_natOf (by omega)) (fun v13 w13 p13 => ?_)
 obtain ⟨s13, rfl, os_13, c13⟩ := p13
 have zw13 := c13.size
 refine sp rfl (px_build rfl (xbld25x0x1 rfl os_13.one _)) ?_
 have f15 := fb2.ext c13
 refine sx_store (vs := [.bool false, v13]) rfl rfl f15 rfl Try.sizeOf25 (nbl rfl) (one_cons rfl (one_cons os_13.one one_nil)) (fun w14 sw14 fw14 cw14 => ?_)
 have zw14 := cw14.size
 have gw14 : Blk w14 b2 [.bool false, v13] 25 := fw14
 refine wl_nil (q_n (k12 _ _ ?_))
 refine sx_retc ?_
 refine sx_ret1 Try.results43 ⟨_, rfl, gw14.loadA (vs := [.bool false, v13]) (look_lit rfl) Try.isAgg25 Try.sizeOf25⟩ ?_
 have e1 : n.toNat = n.natAbs := by omega
 have e2 : ng n = false := ng_false.2 (by omega)
 rw [e2, ← e1]
 have q16 := Chg.step (l := 0) (h := 0) (Chg.zero (l := 0) (h := 0) (cb2.t c13)) cw14 (by omega)
 have f17 := os_13.chg cw14 (by omega)
 exact ⟨_, rfl, (Own.mono f17 (by omega) (by omega)), q16⟩

theorem c_intsOk {w : World} {n1 : Bool} {v1 : Value} {lv1 uv1 : Nat} {z1 : List Int} {n2 : Bool} {v2 : Value} {lv2 uv2 : Nat} {z2 : List Int} (hv1 : Sl w lv1 uv1 v1 (z1)) (hv2 : Sl w lv2 uv2 v2 (z2)) (h63 : z1.length ≤ 4611686018427387904 ∧ z2.length ≤ 4611686018427387904) :
  Ret Try.prog 36 [.agg #[.bool n1, v1], .agg #[.bool n2, v2]] w fun v w' => v = .bool (decide (IOk n1 z1 ∧ IOk n2 z2)) ∧ Chg 0 0 w w' := by
 have hv10 := hv1.fit
 have hv20 := hv2.fit
 refine sx_enter Try.func36 rfl Try.ntmps36 (nbl rfl) ?_
 refine sx_seq fun K1 k1 => sx_region ?_
 refine sx_box [.bool n1, v1] rfl rfl rfl (fun b2 w3 eb2 sb2 fb2 cb2 => ?_)
 have zw3 := cb2.size
 refine sx_box [.bool n2, v2] rfl rfl rfl (fun b4 w5 eb4 sb4 fb4 cb4 => ?_)
 have zw5 := cb4.size
 refine av rfl rfl (wl_nil (q_n (k1 _ _ ?_)))
 refine sx_seq fun K6 k6 => sx_region ?_
 have f7 := fb2.ext cb4
 refine sp rfl (px_load rfl (f7.loadA (vs := [.bool n1, v1]) (look_lit rfl) Try.isAgg25 Try.sizeOf25)) ?_
 have f8 := hv10.ext cb2
 have f9 := f8.ext cb4
 refine sx_call rfl rfl Try.call38 (c_iIntOk f9 (by omega)) (fun v10 w10 p10 => ?_)
 obtain ⟨rfl, c10⟩ := p10
 have zw10 := c10.size
 refine mv rfl rfl ?_
 refine sx_tmpP (t := 7) rfl (fun h13 => ?_) (fun h13 => ?_)
 ·
  refine sx_guardT rfl rfl rfl ?_
  have f11 := fb4.ext c10
  refine sp rfl (px_load rfl (f11.loadA (vs := [.bool n2, v2]) (look_lit rfl) Try.isAgg25 Try.sizeOf25)) ?_
  refine sx_guardT rfl rfl rfl ?_
  have f12 := hv20.ext cb2
  have f13 := f12.ext cb4
  have f14 := f13.ext c10
  refine sx_call rfl rfl Try.call38 (c_iIntOk f14 (by omega)) (fun v15 w15 p15 => ?_)
  obtain ⟨rfl, c15⟩ := p15
  have zw15 := c15.size
  refine sp rfl (px_pick rfl rfl) ?_
  refine av rfl rfl (wl_nil (q_n (k6 _ _ ?_)))
  refine sx_retc ?_
  refine sx_ret1 Try.results36 rfl ?_
  exact ⟨(by first | exact bTrue (by grind) | exact bFalse (by grind) | exact bIff (by grind)), (((cb2.t cb4).t c10).t c15)⟩
 refine sx_guardF rfl rfl rfl rfl rfl rfl ?_
 refine sx_guardF rfl rfl rfl rfl rfl rfl ?_
 refine sp rfl (px_pick rfl rfl) ?_
 refine av rfl rfl (wl_nil (q_n (k6 _ _ ?_)))
 refine sx_retc ?_
 refine sx_ret1 Try.results36 rfl ?_
 exact ⟨(by first | exact bTrue (by grind) | exact bFalse (by grind) | exact bIff (by grind)), ((cb2.t cb4).t c10)⟩

theorem c_reduce {w : World} {n : Bool} {va : Value} {lva uva : Nat} {m : Nat} {vb : Value} {lvb uvb : Nat} {d : Nat} (hva : Sl w lva uva va (dg m)) (hvb : Sl w lvb uvb vb (dg d)) (hbm : (dg m).length ≤ 400) (hbd : (dg d).length ≤ 400) (hd0 : 0 < d) :
  Ret Try.prog 46 [.agg #[.bool n, va], vb] w fun v w' => ∃ s t ls us lt ut, v = .tuple #[.agg #[.bool ((rR (sgI n m) d).1), s, t], .bool ((rR (sgI n m) d).2.2.2)] ∧ OwnI w' (ls) (us) s intT ((rR (sgI n m) d).2.1) ∧ OwnI w' (lt) (ut) t intT ((rR (sgI n m) d).2.2.1) ∧ (w.heap.size ≤ ls ∧ us ≤ w'.heap.size ∧ w.heap.size ≤ lt ∧ ut ≤ w'.heap.size ∧ (us ≤ lt ∨ ut ≤ ls)) ∧ ((rR (sgI n m) d).2.1.length ≤ 18 ∧ (rR (sgI n m) d).2.2.1.length ≤ 18) ∧ Chg 0 0 w w' := by
 have hva0 := hva.fit
 have hvb0 := hvb.fit
 have hgp := gcd_pos_r (m := m) hd0
 have lg := gcd_le_left (m := m) (n := d) (k := max (dg m).length (dg d).length) (by omega) (by omega)
 have lq1 := len_div m (Nat.gcd m d)
 have lq2 := len_div d (Nat.gcd m d)
 refine sx_enter Try.func46 rfl Try.ntmps46 (nbl rfl) ?_
 refine sx_seq fun K1 k1 => sx_region ?_
 refine sx_box [.bool n, va] rfl rfl rfl (fun b2 w3 eb2 sb2 fb2 cb2 => ?_)
 have zw3 := cb2.size
 refine sx_alloc [.bool false, (.slice none 0 0), (.slice none 0 0)] rfl Try.zeroValue27 rfl (fun b4 w5 eb4 sb4 fb4 cb4 => ?_)
 have zw5 := cb4.size
 refine av rfl rfl (wl_nil (q_n (k1 _ _ ?_)))
 refine sx_seq fun K6 k6 => sx_region ?_
 refine sp rfl (px_field rfl xfld25x1) ?_
 have f7 := fb2.ext cb4
 refine sp rfl (px_load rfl (f7.load1 rfl Try.isAgg23)) ?_
 refine mv rfl rfl ?_
 have f8 := hva0.ext cb2
 have f9 := f8.ext cb4
 have f10 := hvb0.ext cb2
 have f11 := f10.ext cb4
 refine sx_call rfl rfl Try.call62 (c_natGcd f9 f11 (by omega) (by omega)) (fun v12 w12 p12 => ?_)
 obtain ⟨s12, rfl, os_12, c12⟩ := p12
 have zw12 := c12.size
 refine av rfl rfl (wl_nil (q_n (k6 _ _ ?_)))
 refine sx_seq fun K13 k13 => sx_region ?_
 refine sp rfl (px_field rfl xfld25x1) ?_
 have f14 := f7.ext c12
 refine sp rfl (px_load rfl (f14.load1 rfl Try.isAgg23)) ?_
 refine mv rfl rfl ?_
 have f15 := f9.ext c12
 refine sx_call rfl rfl Try.call64 (c_natDiv f15 os_12.sv (by omega) (by omega) (hgp)) (fun v16 w16 p16 => ?_)
 obtain ⟨s16, t16, rfl, os_16, ot_16, c16⟩ := p16
 have zw16 := c16.size
 refine mv rfl rfl (sp rfl (px_ex2 rfl rfl) ?_)
 refine sp rfl (px_ex2 rfl rfl) ?_
 refine av rfl rfl (av rfl rfl (wl_nil (q_n (k13 _ _ ?_))))
 refine sx_sub (Sub.c 1 rfl (.c 2 rfl (.c 4 rfl (.c 5 rfl (.c 6 rfl (.c 7 rfl .nil)))))) ?_
 refine sx_seq fun K17 k17 => sx_region ?_
 refine mv rfl rfl (mv rfl rfl ?_)
 have f19 := (f11.ext c12).ext c16
 have f20 := os_12.ext c16
 refine sx_call rfl rfl Try.call64 (c_natDiv f19 f20.sv (by omega) (by omega) (hgp)) (fun v21 w21 p21 => ?_)
 obtain ⟨s21, t21, rfl, os_21, ot_21, c21⟩ := p21
 have zw21 := c21.size
 refine mv rfl rfl (sp rfl (px_ex2 rfl rfl) ?_)
 refine sp rfl (px_ex2 rfl rfl) ?_
 refine av rfl rfl (av rfl rfl (wl_nil (q_n (k17 _ _ ?_))))
 refine sx_seq fun K22 k22 => ?_
 refine sx_seq fun K23 k23 => sx_region ?_
 refine mv rfl rfl ?_
 have f24 := os_16.ext c21
 refine sp rfl (px_len rfl Try.underlying23 f24.sv) ?_
 refine sp rfl (px_gt rfl rfl) ?_
 refine mv rfl rfl ?_
 refine sx_tmpP (t := 31) rfl (fun h26 => ?_) (fun h26 => ?_)
 ·
  refine sx_guardF rfl rfl rfl rfl rfl rfl ?_
  refine sx_guardF rfl rfl rfl rfl rfl rfl ?_
  refine sx_guardF rfl rfl rfl rfl rfl rfl ?_
  refine sp rfl (px_pick rfl rfl) ?_
  refine wl_nil (q_n (k23 _ _ ?_))
  refine sx_sub (Sub.c 2 rfl (.c 4 rfl (.c 5 rfl (.c 7 rfl (.c 9 rfl (.c 35 rfl .nil)))))) ?_
  refine sx_condT rfl ?_
  refine sx_seq fun K25 k25 => sx_region ?_
  refine sp rfl (px_build rfl (xbld27x  _)) ?_
  have f29 := ((fb4.ext c12).ext c16).ext c21
  refine sx_store (vs := [.bool false, (.slice none 0 0), (.slice none 0 0)]) rfl rfl f29 rfl Try.sizeOf27 (nbl rfl) (o3 rfl rfl rfl) (fun w26 sw26 fw26 cw26 => ?_)
  have zw26 := cw26.size
  have gw26 : Blk w26 b4 [.bool false, (.slice none 0 0), (.slice none 0 0)] 27 := fw26
  refine av rfl rfl (wl_nil (q_n (k25 _ _ ?_)))
  refine sx_retc ?_
  refine q_r (sx_ret2 Try.results46 ⟨_, rfl, gw26.loadA (vs := [.bool false, (.slice none 0 0), (.slice none 0 0)]) (look_lit rfl) Try.isAgg27 Try.sizeOf27⟩ rfl ?_)
  rw [rR_no (fun h => by omega)]
  have q30 := Chg.step (l := 0) (h := 0) (Chg.zero (l := 0) (h := 0) ((((cb2.t cb4).t c12).t c16).t c21)) cw26 (by omega)
  exact ⟨_, _, w.heap.size, w.heap.size, w.heap.size, w.heap.size, rfl, Own.nil _ _ _ _ _, Own.nil _ _ _ _ _, by omega, ⟨by simp [noR], by simp [noR]⟩, q30⟩
 refine sx_guardT rfl rfl rfl ?_
 refine mv rfl rfl ?_
 refine sx_guardT rfl rfl rfl ?_
 refine sp rfl (px_len rfl Try.underlying23 os_21.sv) ?_
 refine sx_guardT rfl rfl rfl ?_
 refine sp rfl (px_gt rfl rfl) ?_
 refine sp rfl (px_pick rfl rfl) ?_
 refine wl_nil (q_n (k23 _ _ ?_))
 refine sx_sub (Sub.c 2 rfl (.c 4 rfl (.c 5 rfl (.c 7 rfl (.c 9 rfl (.c 35 rfl .nil)))))) ?_
 refine sx_condP rfl (fun h26x1 => ?_) (fun h26x1 => ?_)
 ·
  refine sx_seq fun K31 k31 => sx_region ?_
  refine sp rfl (px_build rfl (xbld27x  _)) ?_
  have f35 := ((fb4.ext c12).ext c16).ext c21
  refine sx_store (vs := [.bool false, (.slice none 0 0), (.slice none 0 0)]) rfl rfl f35 rfl Try.sizeOf27 (nbl rfl) (o3 rfl rfl rfl) (fun w32 sw32 fw32 cw32 => ?_)
  have zw32 := cw32.size
  have gw32 : Blk w32 b4 [.bool false, (.slice none 0 0), (.slice none 0 0)] 27 := fw32
  refine av rfl rfl (wl_nil (q_n (k31 _ _ ?_)))
  refine sx_retc ?_
  refine q_r (sx_ret2 Try.results46 ⟨_, rfl, gw32.loadA (vs := [.bool false, (.slice none 0 0), (.slice none 0 0)]) (look_lit rfl) Try.isAgg27 Try.sizeOf27⟩ rfl ?_)
  rw [rR_no (fun h => by omega)]
  have q36 := Chg.step (l := 0) (h := 0) (Chg.zero (l := 0) (h := 0) ((((cb2.t cb4).t c12).t c16).t c21)) cw32 (by omega)
  exact ⟨_, _, w.heap.size, w.heap.size, w.heap.size, w.heap.size, rfl, Own.nil _ _ _ _ _, Own.nil _ _ _ _ _, by omega, ⟨by simp [noR], by simp [noR]⟩, q36⟩
 refine sx_skip ?_
 refine q_n (k22 _ _ ?_)
 refine sx_seq fun K37 k37 => sx_region ?_
 refine sp rfl (px_field rfl xfld25x0) ?_
 have f39 := (f14.ext c16).ext c21
 refine sp rfl (px_load rfl (f39.load1 rfl Try.isAgg4)) ?_
 refine mv rfl rfl (sx_call rfl rfl Try.call68 (c_signed f24.sv (by omega)) (fun v40 w40 p40 => ?_))
 obtain ⟨rfl, c40⟩ := p40
 have zw40 := c40.size
 refine mv rfl rfl ?_
 have f41 := os_21.ext c40
 refine sp rfl (px_build rfl (xbld27x0x1 f41.one _)) ?_
 have f46 := (((fb4.ext c12).ext c16).ext c21).ext c40
 have f47 := f24.ext c40
 refine sx_store (vs := [.bool (nz n (dg (m / (Nat.gcd m d)))), s16, s21]) rfl rfl f46 rfl Try.sizeOf27 (nbl rfl) (one_cons rfl (one_cons f47.one (one_cons f41.one one_nil))) (fun w42 sw42 fw42 cw42 => ?_)
 have zw42 := cw42.size
 have gw42 : Blk w42 b4 [.bool (nz n (dg (m / (Nat.gcd m d)))), s16, s21] 27 := fw42
 refine av rfl rfl (wl_nil (q_n (k37 _ _ ?_)))
 refine sx_retc ?_
 refine sx_ret2 Try.results46 ⟨_, rfl, gw42.loadA (vs := [.bool (nz n (dg (m / (Nat.gcd m d)))), s16, s21]) (look_lit rfl) Try.isAgg27 Try.sizeOf27⟩ rfl ?_
 have hrl := rR_len (x := sgI n m) (d := d)
 rw [rR_ok hd0 (by omega) (by omega)] at hrl ⊢
 have q48 := Chg.step (l := 0) (h := 0) (Chg.zero (l := 0) (h := 0) (((((cb2.t cb4).t c12).t c16).t c21).t c40)) cw42 (by omega)
 have f49 := f47.chg cw42 (by omega)
 have f50 := f41.chg cw42 (by omega)
 exact ⟨_, _, _, _, _, _, rfl, f49, f50, by omega, hrl, q48⟩

theorem c_iRatMake {w : World} {n1 : Bool} {v1 : Value} {lv1 uv1 : Nat} {z1 : List Int} {n2 : Bool} {v2 : Value} {lv2 uv2 : Nat} {z2 : List Int} (hv1 : Sl w lv1 uv1 v1 (z1)) (hv2 : Sl w lv2 uv2 v2 (z2)) (h63 : z1.length ≤ 4611686018427387904 ∧ z2.length ≤ 4611686018427387904) :
  Ret Try.prog 42 [.agg #[.bool n1, v1], .agg #[.bool n2, v2]] w fun v w' => ∃ s t ls us lt ut, v = .tuple #[.agg #[.bool ((rMake n1 z1 n2 z2).1), s, t], .bool ((rMake n1 z1 n2 z2).2.2.2)] ∧ OwnI w' (ls) (us) s intT ((rMake n1 z1 n2 z2).2.1) ∧ OwnI w' (lt) (ut) t intT ((rMake n1 z1 n2 z2).2.2.1) ∧ (w.heap.size ≤ ls ∧ us ≤ w'.heap.size ∧ w.heap.size ≤ lt ∧ ut ≤ w'.heap.size ∧ (us ≤ lt ∨ ut ≤ ls)) ∧ ((rMake n1 z1 n2 z2).2.1.length ≤ 18 ∧ (rMake n1 z1 n2 z2).2.2.1.length ≤ 18) ∧ Chg 0 0 w w' := by
 have hv10 := hv1.fit
 have hv20 := hv2.fit
 refine sx_enter Try.func42 rfl Try.ntmps42 (nbl rfl) ?_
 refine sx_seq fun K1 k1 => sx_region ?_
 refine sx_box [.bool n1, v1] rfl rfl rfl (fun b2 w3 eb2 sb2 fb2 cb2 => ?_)
 have zw3 := cb2.size
 refine sx_box [.bool n2, v2] rfl rfl rfl (fun b4 w5 eb4 sb4 fb4 cb4 => ?_)
 have zw5 := cb4.size
 refine sx_alloc [.bool false, (.slice none 0 0), (.slice none 0 0)] rfl Try.zeroValue27 rfl (fun b6 w7 eb6 sb6 fb6 cb6 => ?_)
 have zw7 := cb6.size
 refine av rfl rfl (wl_nil (q_n (k1 _ _ ?_)))
 refine sx_seq fun K8 k8 => ?_
 refine sx_seq fun K9 k9 => sx_region ?_
 have f10 := fb2.ext cb4
 have f11 := f10.ext cb6
 refine sp rfl (px_load rfl (f11.loadA (vs := [.bool n1, v1]) (look_lit rfl) Try.isAgg25 Try.sizeOf25)) ?_
 have f12 := fb4.ext cb6
 refine sp rfl (px_load rfl (f12.loadA (vs := [.bool n2, v2]) (look_lit rfl) Try.isAgg25 Try.sizeOf25)) ?_
 have f13 := hv10.ext cb2
 have f14 := f13.ext cb4
 have f15 := f14.ext cb6
 have f16 := hv20.ext cb2
 have f17 := f16.ext cb4
 have f18 := f17.ext cb6
 refine sx_call rfl rfl Try.call36 (c_intsOk f15 f18 (by omega)) (fun v19 w19 p19 => ?_)
 obtain ⟨rfl, c19⟩ := p19
 have zw19 := c19.size
 refine sp rfl (px_notP rfl) ?_
 refine mv rfl rfl ?_
 refine sx_tmpP (t := 10) rfl (fun h37 => ?_) (fun h37 => ?_)
 ·
  refine sx_guardF rfl rfl rfl rfl rfl rfl ?_
  refine sx_guardF rfl rfl rfl rfl rfl rfl ?_
  refine sx_guardF rfl rfl rfl rfl rfl rfl ?_
  refine sx_guardF rfl rfl rfl rfl rfl rfl ?_
  refine sp rfl (px_pick rfl rfl) ?_
  refine wl_nil (q_n (k9 _ _ ?_))
  refine sx_sub (Sub.c 2 rfl (.c 3 rfl (.c 4 rfl (.c 5 rfl (.c 15 rfl .nil))))) ?_
  refine sx_condT rfl ?_
  refine sx_seq fun K20 k20 => sx_region ?_
  refine sp rfl (px_build rfl (xbld27x  _)) ?_
  have f22 := fb6.ext c19
  refine sx_store (vs := [.bool false, (.slice none 0 0), (.slice none 0 0)]) rfl rfl f22 rfl Try.sizeOf27 (nbl rfl) (o3 rfl rfl rfl) (fun w21 sw21 fw21 cw21 => ?_)
  have zw21 := cw21.size
  have gw21 : Blk w21 b6 [.bool false, (.slice none 0 0), (.slice none 0 0)] 27 := fw21
  refine av rfl rfl (wl_nil (q_n (k20 _ _ ?_)))
  refine sx_retc ?_
  refine q_r (sx_ret2 Try.results42 ⟨_, rfl, gw21.loadA (vs := [.bool false, (.slice none 0 0), (.slice none 0 0)]) (look_lit rfl) Try.isAgg27 Try.sizeOf27⟩ rfl ?_)
  first | rw [rMake_no (by assumption)] | rw [rMake_ok hI.1 hI.2, rR_zero (len_zero.1 (by omega))]
  have q23 := Chg.step (l := 0) (h := 0) (Chg.zero (l := 0) (h := 0) (((cb2.t cb4).t cb6).t c19)) cw21 (by omega)
  exact ⟨_, _, w.heap.size, w.heap.size, w.heap.size, w.heap.size, rfl, Own.nil _ _ _ _ _, Own.nil _ _ _ _ _, by omega, ⟨by simp [noR], by simp [noR]⟩, q23⟩
 have hI := Decidable.not_not.1 h37
 obtain ⟨x1, rfl, rfl, hx1⟩ := hI.1.int
 obtain ⟨x2, rfl, rfl, hx2⟩ := hI.2.int
 refine sx_guardT rfl rfl rfl ?_
 refine sp rfl (px_field rfl xfld25x1) ?_
 refine sx_guardT rfl rfl rfl ?_
 have f24 := f12.ext c19
 refine sp rfl (px_load rfl (f24.load1 rfl Try.isAgg23)) ?_
 refine sx_guardT rfl rfl rfl ?_
 have f25 := f18.ext c19
 refine sp rfl (px_len rfl Try.underlying23 f25) ?_
 refine sx_guardT rfl rfl rfl ?_
 refine sp rfl (px_eq rfl rfl) ?_
 refine sp rfl (px_pick rfl rfl) ?_
 refine wl_nil (q_n (k9 _ _ ?_))
 refine sx_sub (Sub.c 2 rfl (.c 3 rfl (.c 4 rfl (.c 5 rfl (.c 15 rfl .nil))))) ?_
 refine sx_condP rfl (fun h37x1 => ?_) (fun h37x1 => ?_)
 ·
  refine sx_seq fun K26 k26 => sx_region ?_
  refine sp rfl (px_build rfl (xbld27x  _)) ?_
  have f28 := fb6.ext c19
  refine sx_store (vs := [.bool false, (.slice none 0 0), (.slice none 0 0)]) rfl rfl f28 rfl Try.sizeOf27 (nbl rfl) (o3 rfl rfl rfl) (fun w27 sw27 fw27 cw27 => ?_)
  have zw27 := cw27.size
  have gw27 : Blk w27 b6 [.bool false, (.slice none 0 0), (.slice none 0 0)] 27 := fw27
  refine av rfl rfl (wl_nil (q_n (k26 _ _ ?_)))
  refine sx_retc ?_
  refine q_r (sx_ret2 Try.results42 ⟨_, rfl, gw27.loadA (vs := [.bool false, (.slice none 0 0), (.slice none 0 0)]) (look_lit rfl) Try.isAgg27 Try.sizeOf27⟩ rfl ?_)
  first | rw [rMake_no (by assumption)] | rw [rMake_ok hI.1 hI.2, rR_zero (len_zero.1 (by omega))]
  have q29 := Chg.step (l := 0) (h := 0) (Chg.zero (l := 0) (h := 0) (((cb2.t cb4).t cb6).t c19)) cw27 (by omega)
  exact ⟨_, _, w.heap.size, w.heap.size, w.heap.size, w.heap.size, rfl, Own.nil _ _ _ _ _, Own.nil _ _ _ _ _, by omega, ⟨by simp [noR], by simp [noR]⟩, q29⟩
 refine sx_skip ?_
 refine q_n (k8 _ _ ?_)
 refine sx_seq fun K30 k30 => ?_
 have f31 := f11.ext c19
 refine dx_region (fun w' => Chg b6 (b6 + 1) w19 w') (by kernel_rfl) (Chg.zero (Chg.drew _)) ?_
 have d33 := Chg.drew w19
 have s33 : Chg b6 (b6 + 1) w19 (World.drew w19) := Chg.zero (Chg.drew _)
 have y33 : (World.drew w19).heap.size = w19.heap.size := rfl
 generalize World.drew w19 = w33 at *
 have zw33 := d33.size
 refine dt 0 rfl rfl rfl rfl s33 (fun _ hS => px_field rfl xfld25x0) ?_
 refine dt 1 rfl rfl rfl rfl s33 (fun _ hS => px_load rfl ((f31.chg hS (by omega)).load1 rfl Try.isAgg4)) ?_
 refine dt 2 rfl rfl rfl rfl s33 (fun _ hS => px_field rfl xfld25x0) ?_
 refine dt 3 rfl rfl rfl rfl s33 (fun _ hS => px_load rfl ((f24.chg hS (by omega)).load1 rfl Try.isAgg4)) ?_
 refine dt 4 rfl rfl rfl rfl s33 (fun _ hS => px_neB Try.underlying4 rfl rfl) ?_
 refine dt 5 rfl rfl rfl rfl s33 (fun _ hS => px_field rfl xfld25x1) ?_
 refine dt 6 rfl rfl rfl rfl s33 (fun _ hS => px_load rfl ((f31.chg hS (by omega)).load1 rfl Try.isAgg23)) ?_
 refine dt 8 rfl rfl rfl rfl s33 (fun _ hS => px_field rfl xfld25x1) ?_
 refine dt 9 rfl rfl rfl rfl s33 (fun _ hS => px_load rfl ((f24.chg hS (by omega)).load1 rfl Try.isAgg23)) ?_
 refine dx_eff 7 rfl (by kernel_rfl) ?_
 have f34 := (f15.ext c19).ext d33
 refine sx_call rfl rfl Try.call68 (c_signed f34 (by omega)) (fun v35 w35 p35 => ?_)
 obtain ⟨rfl, c35⟩ := p35
 have zw35 := c35.size
 have s36 : Chg b6 (b6 + 1) w19 w35 := (Chg.zero (l := b6) (h := (b6 + 1)) (d33.t c35))
 refine wl_nil ?_
 refine dx_next s36 ?_
 refine dx_eff 10 rfl (by kernel_rfl) ?_
 have f37 := f34.ext c35
 have f39 := (f25.ext d33).ext c35
 refine sx_call rfl rfl Try.call46 (c_reduce f37 f39 (by omega) (by omega) (len_pos.1 (by omega))) (fun v40 w40 p40 => ?_)
 obtain ⟨s40, t40, ls40, us40, lt40, ut40, rfl, os_40, ot_40, hd40, hl40, c40⟩ := p40
 have zw40 := c40.size
 have s41 : Chg b6 (b6 + 1) w19 w40 := (Chg.zero (l := b6) (h := (b6 + 1)) ((d33.t c35).t c40))
 refine wl_nil ?_
 refine dx_next s41 ?_
 refine dt 11 rfl rfl rfl rfl s41 (fun _ hS => px_ex2 rfl rfl) ?_
 refine dt 12 rfl rfl rfl rfl s41 (fun _ hS => px_ex2 rfl rfl) ?_
 refine dx_eff 13 rfl (by kernel_rfl) ?_
 have f46 := (((fb6.ext c19).ext d33).ext c35).ext c40
 refine sx_store (vs := [.bool ((rR (sgI (nz ((ng x1) != (ng x2)) (dg x1.natAbs)) x1.natAbs) x2.natAbs).1), s40, t40]) rfl rfl f46 rfl Try.sizeOf27 (nbl rfl) (one_cons rfl (one_cons os_40.one (one_cons ot_40.one one_nil))) (fun w42 sw42 fw42 cw42 => ?_)
 have zw42 := cw42.size
 have gw42 : Blk w42 b6 [.bool ((rR (sgI (nz ((ng x1) != (ng x2)) (dg x1.natAbs)) x1.natAbs) x2.natAbs).1), s40, t40] 27 := fw42
 have q48 := Chg.step (l := b6) (h := (b6 + 1)) (Chg.zero (l := b6) (h := (b6 + 1)) ((d33.t c35).t c40)) cw42 (by omega)
 have s47 : Chg b6 (b6 + 1) w19 w42 := q48
 refine wl_nil ?_
 refine dx_next s47 ?_
 refine dt 14 rfl rfl rfl rfl s47 (fun _ hS => px_assign rfl) ?_
 refine dx_done (by kernel_rfl) ?_
 refine q_n (k30 _ _ ?_)
 refine sx_sub (Sub.c 4 rfl (.c 5 rfl .nil)) ?_
 refine sx_retc ?_
 refine sx_ret2 Try.results42 ⟨_, rfl, gw42.loadA (vs := [.bool ((rR (sgI (nz ((ng x1) != (ng x2)) (dg x1.natAbs)) x1.natAbs) x2.natAbs).1), s40, t40]) (look_lit rfl) Try.isAgg27 Try.sizeOf27⟩ rfl ?_
 have hrl := rMake_len (n1 := ng x1) (z1 := dg x1.natAbs) (n2 := ng x2) (z2 := dg x2.natAbs)
 have hre : rMake (ng x1) (dg x1.natAbs) (ng x2) (dg x2.natAbs) = rR (sgI (nz (ng x1 != ng x2) (dg x1.natAbs)) x1.natAbs) x2.natAbs := by rw [rMake_ok hI.1 hI.2, sgI_nz]
 rw [hre] at hrl ⊢
 have q49 := Chg.step (l := 0) (h := 0) (Chg.zero (l := 0) (h := 0) ((((((cb2.t cb4).t cb6).t c19).t d33).t c35).t c40)) cw42 (by omega)
 have f50 := os_40.chg cw42 (by omega)
 have f51 := ot_40.chg cw42 (by omega)
 exact ⟨_, _, _, _, _, _, rfl, f50, f51, by omega, hrl, q49⟩

theorem c_iRatMakeH {w : World} {va : Value} {lva uva : Nat} {x : Int} {vb : Value} {lvb uvb : Nat} {y : Int} (hva : Sl w lva uva va (dg x.natAbs)) (hvb : Sl w lvb uvb vb (dg y.natAbs)) (hx : x = 1 ∧ y = 2) :
  Ret Try.prog 42 [.agg #[.bool (ng x), va], .agg #[.bool (ng y), vb]] w fun v w' => ∃ s t ls us lt ut, v = .tuple #[.agg #[.bool (ng (1 : Int)), s, t], .bool (true)] ∧ OwnI w' (ls) (us) s intT (dg (1 : Int).natAbs) ∧ OwnI w' (lt) (ut) t intT (dg 2) ∧ (w.heap.size ≤ ls ∧ us ≤ w'.heap.size ∧ w.heap.size ≤ lt ∧ ut ≤ w'.heap.size ∧ (us ≤ lt ∨ ut ≤ ls)) ∧ Chg 0 0 w w' := by
 obtain ⟨rfl, rfl⟩ := hx; have hl : ∀ n, n < 3 → (dg n).length ≤ 1 := fun n h => dg_len_le (by simp only [Bs]; omega)
 have h := c_iRatMake (n1 := ng 1) (n2 := ng 2) hva hvb ⟨Nat.le_trans (hl _ (by decide)) (by decide), Nat.le_trans (hl _ (by decide)) (by decide)⟩; rw [rMake_half] at h
 exact Calls.mono h fun ev w' ⟨v, he, s, t, ls, us, lt, ut, e1, o1, o2, hd, _, hc⟩ => ⟨v, he, s, t, ls, us, lt, ut, e1, o1, o2, hd, hc⟩

theorem c_iRatInt {w : World} {n1 : Bool} {v1 : Value} {lv1 uv1 : Nat} {z1 : List Int} (hv1 : Sl w lv1 uv1 v1 (z1)) (h63 : z1.length ≤ 4611686018427387904) :
  Ret Try.prog 16 [.agg #[.bool n1, v1]] w fun v w' => ∃ s t ls us lt ut, v = .tuple #[.agg #[.bool ((rInt n1 z1).1), s, t], .bool ((rInt n1 z1).2.2.2)] ∧ OwnI w' (ls) (us) s intT ((rInt n1 z1).2.1) ∧ OwnI w' (lt) (ut) t intT ((rInt n1 z1).2.2.1) ∧ (w.heap.size ≤ ls ∧ us ≤ w'.heap.size ∧ w.heap.size ≤ lt ∧ ut ≤ w'.heap.size ∧ (us ≤ lt ∨ ut ≤ ls)) ∧ ((rInt n1 z1).2.1.length ≤ 18 ∧ (rInt n1 z1).2.2.1.length ≤ 18) ∧ Chg 0 0 w w' := by
 have hv10 := hv1.fit
 refine sx_enter Try.func16 rfl Try.ntmps16 (nbl rfl) ?_
 refine sx_seq fun K1 k1 => sx_region ?_
 refine sx_box [.bool n1, v1] rfl rfl rfl (fun b2 w3 eb2 sb2 fb2 cb2 => ?_)
 have zw3 := cb2.size
 refine sx_alloc [.bool false, (.slice none 0 0), (.slice none 0 0)] rfl Try.zeroValue27 rfl (fun b4 w5 eb4 sb4 fb4 cb4 => ?_)
 have zw5 := cb4.size
 refine av rfl rfl (wl_nil (q_n (k1 _ _ ?_)))
 refine sx_seq fun K6 k6 => ?_
 have f7 := fb2.ext cb4
 have f8 := hv10.ext cb2
 have f9 := f8.ext cb4
 refine dx_region (fun w' => Chg b4 (b4 + 1) w5 w') (by kernel_rfl) (Chg.zero (Chg.drew _)) ?_
 have d10 := Chg.drew w5
 have s10 : Chg b4 (b4 + 1) w5 (World.drew w5) := Chg.zero (Chg.drew _)
 have y10 : (World.drew w5).heap.size = w5.heap.size := rfl
 generalize World.drew w5 = w10 at *
 have zw10 := d10.size
 refine dt 0 rfl rfl rfl rfl s10 (fun _ hS => px_load rfl ((f7.chg hS (by omega)).loadA (vs := [.bool n1, v1]) (look_lit rfl) Try.isAgg25 Try.sizeOf25)) ?_
 refine dx_eff 1 rfl (by kernel_rfl) ?_
 refine sx_call rfl rfl Try.call43 (c_iIntOf (by omega)) (fun v11 w11 p11 => ?_)
 obtain ⟨s11, rfl, os_11, c11⟩ := p11
 have zw11 := c11.size
 have s12 : Chg b4 (b4 + 1) w5 w11 := (Chg.zero (l := b4) (h := (b4 + 1)) (d10.t c11))
 refine wl_nil ?_
 refine dx_next s12 ?_
 refine dx_eff 2 rfl (by kernel_rfl) ?_
 have f14 := (f9.ext d10).ext c11
 refine sx_call rfl rfl Try.call42 (c_iRatMake f14 os_11.sv (by have h9 := len_i64 (n := 1) (by omega); omega)) (fun v15 w15 p15 => ?_)
 obtain ⟨s15, t15, ls15, us15, lt15, ut15, rfl, os_15, ot_15, hd15, hl15, c15⟩ := p15
 have zw15 := c15.size
 have s16 : Chg b4 (b4 + 1) w5 w15 := (Chg.zero (l := b4) (h := (b4 + 1)) ((d10.t c11).t c15))
 refine wl_nil ?_
 refine dx_next s16 ?_
 refine dt 3 rfl rfl rfl rfl s16 (fun _ hS => px_ex2 rfl rfl) ?_
 refine dt 4 rfl rfl rfl rfl s16 (fun _ hS => px_ex2 rfl rfl) ?_
 refine dx_eff 5 rfl (by kernel_rfl) ?_
 have f20 := ((fb4.ext d10).ext c11).ext c15
 refine sx_store (vs := [.bool ((rMake n1 z1 (ng (1 : Int)) (dg ((1 : Int)).natAbs)).1), s15, t15]) rfl rfl f20 rfl Try.sizeOf27 (nbl rfl) (one_cons rfl (one_cons os_15.one (one_cons ot_15.one one_nil))) (fun w17 sw17 fw17 cw17 => ?_)
 have zw17 := cw17.size
 have gw17 : Blk w17 b4 [.bool ((rMake n1 z1 (ng (1 : Int)) (dg ((1 : Int)).natAbs)).1), s15, t15] 27 := fw17
 have q22 := Chg.step (l := b4) (h := (b4 + 1)) (Chg.zero (l := b4) (h := (b4 + 1)) ((d10.t c11).t c15)) cw17 (by omega)
 have s21 : Chg b4 (b4 + 1) w5 w17 := q22
 refine wl_nil ?_
 refine dx_next s21 ?_
 refine dt 6 rfl rfl rfl rfl s21 (fun _ hS => px_assign rfl) ?_
 refine dx_done (by kernel_rfl) ?_
 refine q_n (k6 _ _ ?_)
 refine sx_retc ?_
 refine sx_ret2 Try.results16 ⟨_, rfl, gw17.loadA (vs := [.bool ((rMake n1 z1 (ng (1 : Int)) (dg ((1 : Int)).natAbs)).1), s15, t15]) (look_lit rfl) Try.isAgg27 Try.sizeOf27⟩ rfl ?_
 have hrl := rInt_len (n := n1) (z := z1)
 unfold rInt at hrl ⊢
 have q23 := Chg.step (l := 0) (h := 0) (Chg.zero (l := 0) (h := 0) ((((cb2.t cb4).t d10).t c11).t c15)) cw17 (by omega)
 have f24 := os_15.chg cw17 (by omega)
 have f25 := ot_15.chg cw17 (by omega)
 exact ⟨_, _, _, _, _, _, rfl, f24, f25, by omega, hrl, q23⟩

theorem c_iRatIntK {w : World} {va : Value} {lva uva : Nat} {x : Int} (hva : Sl w lva uva va (dg x.natAbs)) (hx : (dg x.natAbs).length ≤ 18) :
  Ret Try.prog 16 [.agg #[.bool (ng x), va]] w fun v w' => ∃ s t ls us lt ut, v = .tuple #[.agg #[.bool (ng x), s, t], .bool (true)] ∧ OwnI w' (ls) (us) s intT (dg (x).natAbs) ∧ OwnI w' (lt) (ut) t intT (dg 1) ∧ (w.heap.size ≤ ls ∧ us ≤ w'.heap.size ∧ w.heap.size ≤ lt ∧ ut ≤ w'.heap.size ∧ (us ≤ lt ∨ ut ≤ ls)) ∧ (ROk (ng x) (dg (x).natAbs) (dg 1)) ∧ Chg 0 0 w w' := by
 have h := c_iRatInt (n1 := ng x) hva (by omega); rw [rInt_ok hx, ← dg_1] at h
 exact Calls.mono h fun ev w' ⟨v, he, s, t, ls, us, lt, ut, e1, o1, o2, hd, _, hc⟩ => ⟨v, he, s, t, ls, us, lt, ut, e1, o1, o2, hd, ROk_whole hx, hc⟩

theorem c_ratsOk {w : World} {n1 : Bool} {v1 : Value} {lv1 uv1 : Nat} {z1 : List Int} {d1 : Value} {ld1 ud1 : Nat} {y1 : List Int} {n2 : Bool} {v2 : Value} {lv2 uv2 : Nat} {z2 : List Int} {d2 : Value} {ld2 ud2 : Nat} {y2 : List Int} (hv1 : Sl w lv1 uv1 v1 (z1)) (hd1 : Sl w ld1 ud1 d1 (y1)) (hv2 : Sl w lv2 uv2 v2 (z2)) (hd2 : Sl w ld2 ud2 d2 (y2)) (h63 : z1.length ≤ 4611686018427387904 ∧ y1.length ≤ 4611686018427387904 ∧ z2.length ≤ 4611686018427387904 ∧ y2.length ≤ 4611686018427387904) :
  Ret Try.prog 44 [.agg #[.bool n1, v1, d1], .agg #[.bool n2, v2, d2]] w fun v w' => v = .bool (decide (ROk n1 z1 y1 ∧ ROk n2 z2 y2)) ∧ Chg 0 0 w w' := by
 have hv10 := hv1.fit
 have hd10 := hd1.fit
 have hv20 := hv2.fit
 have hd20 := hd2.fit
 refine sx_enter Try.func44 rfl Try.ntmps44 (nbl rfl) ?_
 refine sx_seq fun K1 k1 => sx_region ?_
 refine sx_box [.bool n1, v1, d1] rfl rfl rfl (fun b2 w3 eb2 sb2 fb2 cb2 => ?_)
 have zw3 := cb2.size
 refine sx_box [.bool n2, v2, d2] rfl rfl rfl (fun b4 w5 eb4 sb4 fb4 cb4 => ?_)
 have zw5 := cb4.size
 refine av rfl rfl (wl_nil (q_n (k1 _ _ ?_)))
 refine sx_seq fun K6 k6 => sx_region ?_
 have f7 := fb2.ext cb4
 refine sp rfl (px_load rfl (f7.loadA (vs := [.bool n1, v1, d1]) (look_lit rfl) Try.isAgg27 Try.sizeOf27)) ?_
 have f8 := hv10.ext cb2
 have f9 := f8.ext cb4
 have f10 := hd10.ext cb2
 have f11 := f10.ext cb4
 refine sx_call rfl rfl Try.call31 (c_iRatOk f9 f11 (by omega)) (fun v12 w12 p12 => ?_)
 obtain ⟨rfl, c12⟩ := p12
 have zw12 := c12.size
 refine mv rfl rfl ?_
 refine sx_tmpP (t := 7) rfl (fun h33 => ?_) (fun h33 => ?_)
 ·
  refine sx_guardT rfl rfl rfl ?_
  have f13 := fb4.ext c12
  refine sp rfl (px_load rfl (f13.loadA (vs := [.bool n2, v2, d2]) (look_lit rfl) Try.isAgg27 Try.sizeOf27)) ?_
  refine sx_guardT rfl rfl rfl ?_
  have f14 := hv20.ext cb2
  have f15 := f14.ext cb4
  have f16 := f15.ext c12
  have f17 := hd20.ext cb2
  have f18 := f17.ext cb4
  have f19 := f18.ext c12
  refine sx_call rfl rfl Try.call31 (c_iRatOk f16 f19 (by omega)) (fun v20 w20 p20 => ?_)
  obtain ⟨rfl, c20⟩ := p20
  have zw20 := c20.size
  refine sp rfl (px_pick rfl rfl) ?_
  refine av rfl rfl (wl_nil (q_n (k6 _ _ ?_)))
  refine sx_retc ?_
  refine sx_ret1 Try.results44 rfl ?_
  exact ⟨(by first | exact bTrue (by grind) | exact bFalse (by grind) | exact bIff (by grind)), (((cb2.t cb4).t c12).t c20)⟩
 refine sx_guardF rfl rfl rfl rfl rfl rfl ?_
 refine sx_guardF rfl rfl rfl rfl rfl rfl ?_
 refine sp rfl (px_pick rfl rfl) ?_
 refine av rfl rfl (wl_nil (q_n (k6 _ _ ?_)))
 refine sx_retc ?_
 refine sx_ret1 Try.results44 rfl ?_
 exact ⟨(by first | exact bTrue (by grind) | exact bFalse (by grind) | exact bIff (by grind)), ((cb2.t cb4).t c12)⟩

end Go.Proofs.Ytgmoahoocakpmaa
