/- Contracts of functions of the program: what each call returns, and that it changes nothing that was. Conditions: as each says. -/
import Derived.Test.YtoeclobdbblohaaGreatDoorTy
import Derived.Test.YtoeclobdbblohaaGreatDoorNatJ
import Derived.Test.YtoeclobdbblohaaGreatDoorSxB
import Derived.Test.YtoeclobdbblohaaGreatDoorPair
import Derived.Test.YtoeclobdbblohaaGreatDoorSxW
import Derived.Test.YtoeclobdbblohaaGreatDoorNatI
import Derived.Test.YtoeclobdbblohaaGreatDoorTab
import Derived.Test.YtoeclobdbblohaaGreatDoorLay
import Derived.Test.YtoeclobdbblohaaGreatDoorLayB
import Derived.Test.YtoeclobdbblohaaGreatDoorNatX
import Derived.Test.YtoeclobdbblohaaGreatDoorSxP
import Derived.Test.YtoeclobdbblohaaGreatDoorD0
import Derived.Test.YtoeclobdbblohaaGreatDoorD1
import Derived.Test.YtoeclobdbblohaaGreatDoorNatDx
set_option linter.unusedVariables false
set_option linter.unusedSimpArgs false
namespace Go.Proofs.YtoeclobdbblohaaGreatDoor
open Go Go.RowKit
set_option maxRecDepth 100000
theorem c_divStep {w : World} {va : Value} {lva uva : Nat} {preva sufva : List Value} {zs : List Int} {vb : Value} {lvb uvb : Nat} {ys : List Int} (hva : Win w lva uva va intT preva sufva zs) (hvb : Sl w lvb uvb vb (ys)) (hd : uvb ≤ lva ∨ uva ≤ lvb) (hzl : zs.length = ys.length + 1) (h2 : 2 ≤ ys.length) (hz : Lm zs) (hy : Lm ys) (hv1 : 0 < ys.getD (ys.length - 1) 0) (hU : vl zs < 1000000000 * vl ys) (h63 : zs.length ≤ 1000) :
  Ret Tryz.prog 78 [va, vb] w fun v w' => ∃ os, v = .int .i64 (((vl zs / vl ys : Nat) : Int)) ∧ Win w' lva uva va intT preva sufva (os) ∧ (Lm os ∧ (os).length = (zs).length ∧ vl os = vl zs % vl ys) ∧ Chg lva uva w w' := by
 have a0 := hz.getD ys.length
 have a1 := hz.getD (ys.length - 1)
 have a2 := hz.getD (ys.length - 2)
 have b1 := hy.getD (ys.length - 1)
 have b2 := hy.getD (ys.length - 2)
 have hV : 0 < vl ys := by omega
 refine sx_enter Tryz.func78 rfl Tryz.ntmps78 (nbl rfl) ?_
 refine sx_seq fun K1 k1 => sx_region ?_
 refine av rfl rfl (wl_nil (q_n (k1 _ _ ?_)))
 refine sx_seq fun K2 k2 => sx_region ?_
 refine mv rfl rfl (sp rfl (px_len rfl Tryz.underlying23 hvb) ?_)
 refine av rfl rfl (wl_nil (q_n (k2 _ _ ?_)))
 refine sx_seq fun K3 k3 => ?_
 refine dx_region (fun w' => Chg 0 0 w w') (by kernel_rfl) (Chg.zero (Chg.drew _)) ?_
 have d4 := Chg.drew w
 have s4 : Chg 0 0 w (World.drew w) := Chg.zero (Chg.drew _)
 have y4 : (World.drew w).heap.size = w.heap.size := rfl
 generalize World.drew w = w4 at *
 have zw4 := d4.size
 refine dt 0 rfl rfl rfl rfl s4 (fun _ hS => px_move rfl) ?_
 refine dt 1 rfl rfl rfl rfl s4 (fun _ hS => px_move rfl) ?_
 refine dt 2 rfl rfl rfl rfl s4 (fun _ hS => px_index1 (j := (ys).length) rfl rfl (by omega) Tryz.underlying23 Tryz.sizeOf3 ((hva.sv).chg hS (by omega)) (by omega)) ?_
 refine dt 3 rfl rfl rfl rfl s4 (fun _ hS => px_load rfl (((hva.sv).chg hS (by omega)).load1 (at_int (by omega)) Tryz.isAgg3)) ?_
 refine dt 4 rfl rfl rfl rfl s4 (fun _ hS => px_mul rfl rfl (by omega)) ?_
 refine dt 5 rfl rfl rfl rfl s4 (fun _ hS => px_move rfl) ?_
 refine dt 6 rfl rfl rfl rfl s4 (fun _ hS => px_move rfl) ?_
 refine dt 7 rfl rfl rfl rfl s4 (fun _ hS => px_sub rfl rfl (by omega)) ?_
 refine dt 8 rfl rfl rfl rfl s4 (fun _ hS => px_index1 (j := ((ys).length - 1)) rfl rfl (by omega) Tryz.underlying23 Tryz.sizeOf3 ((hva.sv).chg hS (by omega)) (by omega)) ?_
 refine dt 9 rfl rfl rfl rfl s4 (fun _ hS => px_load rfl (((hva.sv).chg hS (by omega)).load1 (at_int (by omega)) Tryz.isAgg3)) ?_
 refine dt 10 rfl rfl rfl rfl s4 (fun _ hS => px_add rfl rfl (by omega)) ?_
 refine dt 11 rfl rfl rfl rfl s4 (fun _ hS => px_assign rfl) ?_
 refine dx_done (by kernel_rfl) ?_
 refine q_n (k3 _ _ ?_)
 refine sx_sub (Sub.c 0 rfl (.c 1 rfl (.c 4 rfl (.c 5 rfl (.c 6 rfl .nil))))) ?_
 refine sx_seq fun K5 k5 => sx_region ?_
 refine mv rfl rfl (mv rfl rfl (mv rfl rfl (sp rfl (px_sub rfl rfl (by omega)) ?_)))
 have f6 := hvb.ext d4
 refine sp rfl (px_index1 (j := ((ys).length - 1)) rfl rfl (by omega) Tryz.underlying23 Tryz.sizeOf3 f6 (by omega)) ?_
 refine sp rfl (px_load rfl (f6.load1 (at_int (by omega)) Tryz.isAgg3)) ?_
 refine sp rfl (px_quo rfl rfl (by omega) (by omega) (by omega)) ?_
 refine sp rfl (px_min rfl rfl) ?_
 refine av rfl rfl (wl_nil (q_n (k5 _ _ ?_)))
 refine sx_seq fun K7 k7 => ?_
 refine sx_block ?_
 refine sx_loop (fun mm aa w' => ∃ (q : Int), Agr 81 [(0, va), (1, vb), (5, .int .i64 ↑ys.length), (6, .int .i64 ((((zs).getD ((ys).length) 0) * 1000000000) + ((zs).getD ((ys).length - 1) 0))), (7, .int .i64 q)] aa ∧ Chg 0 0 w4 w' ∧ (mm = q.toNat) ∧ (Guess zs ys ys.length ((((zs).getD ((ys).length) 0) * 1000000000) + ((zs).getD ((ys).length - 1) 0)) q)) (_) (fun a ha => ⟨(min (((((zs).getD ((ys).length) 0) * 1000000000) + ((zs).getD ((ys).length - 1) 0)) / ((ys).getD ((ys).length - 1) 0)) 999999999), ha.sub (Sub.c 0 rfl (.c 1 rfl (.c 5 (look_int (t := 5) rfl (by first | omega | simp)) (.c 6 rfl (.c 7 (look_int (t := 7) rfl (by first | omega | simp)) .nil))))), Chg.refl _ _ _, rfl, guess_init h2 hzl rfl hz hy hv1 hU rfl⟩) ?_
 rintro mm aa wl8 ⟨q, hAwl8, cwl8, hm, hg⟩
 refine (show cw Tryz.prog 81 _ _ _ wl8 from ?_) aa hAwl8
 clear hAwl8
 have zwl8 := cwl8.size
 have hq0 := hg.q0
 have hq1 := hg.q1
 have hqv := hg.qv
 have m1 := mul_limb hq0 (by omega) b1.1 b1.2
 have m2 := mul_limb hq0 (by omega) b2.1 b2.2
 refine sx_seq fun K9 k9 => ?_
 refine sx_seq fun K10 k10 => ?_
 by_cases ph44 : 0 < q
 ·
  by_cases ph44x1 : zs.getD ys.length 0 * 1000000000 + zs.getD (ys.length - 1) 0 - q * ys.getD (ys.length - 1) 0 < 1000000000
  ·
   have f12 := (hva.ext d4).ext cwl8
   have f13 := f6.ext cwl8
   refine dx_region (fun w' => Chg 0 0 wl8 w') (by kernel_rfl) (Chg.zero (Chg.drew _)) ?_
   have d14 := Chg.drew wl8
   have s14 : Chg 0 0 wl8 (World.drew wl8) := Chg.zero (Chg.drew _)
   have y14 : (World.drew wl8).heap.size = wl8.heap.size := rfl
   generalize World.drew wl8 = w14 at *
   have zw14 := d14.size
   refine dt 0 rfl rfl rfl rfl s14 (fun _ hS => px_move rfl) ?_
   refine dt 1 rfl rfl rfl rfl s14 (fun _ hS => px_gt rfl rfl) ?_
   refine dt 2 rfl rfl rfl rfl s14 (fun _ hS => px_move rfl) ?_
   have h44 : (0 : Int) < q := by first | omega | exact ph44
   refine dx_tmpPT (t := 31) rfl h44 ?_
   refine dx_takeG 3 rfl rfl rfl rfl rfl rfl (by kernel_rfl) (by kernel_rfl) (by kernel_rfl) s14 (fun _ hS => px_move rfl) ?_
   refine dx_takeG 4 rfl rfl rfl rfl rfl rfl (by kernel_rfl) (by kernel_rfl) (by kernel_rfl) s14 (fun _ hS => px_move rfl) ?_
   refine dx_takeG 5 rfl rfl rfl rfl rfl rfl (by kernel_rfl) (by kernel_rfl) (by kernel_rfl) s14 (fun _ hS => px_move rfl) ?_
   refine dx_takeG 6 rfl rfl rfl rfl rfl rfl (by kernel_rfl) (by kernel_rfl) (by kernel_rfl) s14 (fun _ hS => px_move rfl) ?_
   refine dx_takeG 7 rfl rfl rfl rfl rfl rfl (by kernel_rfl) (by kernel_rfl) (by kernel_rfl) s14 (fun _ hS => px_sub rfl rfl (by omega)) ?_
   refine dx_takeG 8 rfl rfl rfl rfl rfl rfl (by kernel_rfl) (by kernel_rfl) (by kernel_rfl) s14 (fun _ hS => px_index1 (j := (ys.length - 1)) rfl rfl (by omega) Tryz.underlying23 Tryz.sizeOf3 ((f13).chg hS (by omega)) (by omega)) ?_
   refine dx_takeG 9 rfl rfl rfl rfl rfl rfl (by kernel_rfl) (by kernel_rfl) (by kernel_rfl) s14 (fun _ hS => px_load rfl (((f13).chg hS (by omega)).load1 (at_int (by omega)) Tryz.isAgg3)) ?_
   refine dx_takeG 10 rfl rfl rfl rfl rfl rfl (by kernel_rfl) (by kernel_rfl) (by kernel_rfl) s14 (fun _ hS => px_mul rfl rfl (by omega)) ?_
   refine dx_takeG 11 rfl rfl rfl rfl rfl rfl (by kernel_rfl) (by kernel_rfl) (by kernel_rfl) s14 (fun _ hS => px_sub rfl rfl (by omega)) ?_
   refine dx_takeG 12 rfl rfl rfl rfl rfl rfl (by kernel_rfl) (by kernel_rfl) (by kernel_rfl) s14 (fun _ hS => px_lt rfl rfl) ?_
   refine dt 13 rfl rfl rfl rfl s14 (fun _ hS => px_pick rfl rfl) ?_
   refine dt 14 rfl rfl rfl rfl s14 (fun _ hS => px_move rfl) ?_
   have h44x1 : (((((zs).getD ((ys).length) 0) * 1000000000) + ((zs).getD ((ys).length - 1) 0)) - (q * ((ys).getD (ys.length - 1) 0)) : Int) < 1000000000 := by first | omega | exact ph44x1
   refine dx_tmpPT (t := 43) rfl h44x1 ?_
   refine dx_takeG 15 rfl rfl rfl rfl rfl rfl (by kernel_rfl) (by kernel_rfl) (by kernel_rfl) s14 (fun _ hS => px_move rfl) ?_
   refine dx_takeG 16 rfl rfl rfl rfl rfl rfl (by kernel_rfl) (by kernel_rfl) (by kernel_rfl) s14 (fun _ hS => px_move rfl) ?_
   refine dx_takeG 17 rfl rfl rfl rfl rfl rfl (by kernel_rfl) (by kernel_rfl) (by kernel_rfl) s14 (fun _ hS => px_move rfl) ?_
   refine dx_takeG 18 rfl rfl rfl rfl rfl rfl (by kernel_rfl) (by kernel_rfl) (by kernel_rfl) s14 (fun _ hS => px_sub rfl rfl (by omega)) ?_
   refine dx_takeG 19 rfl rfl rfl rfl rfl rfl (by kernel_rfl) (by kernel_rfl) (by kernel_rfl) s14 (fun _ hS => px_index1 (j := (ys.length - 2)) rfl rfl (by omega) Tryz.underlying23 Tryz.sizeOf3 ((f13).chg hS (by omega)) (by omega)) ?_
   refine dx_takeG 20 rfl rfl rfl rfl rfl rfl (by kernel_rfl) (by kernel_rfl) (by kernel_rfl) s14 (fun _ hS => px_load rfl (((f13).chg hS (by omega)).load1 (at_int (by omega)) Tryz.isAgg3)) ?_
   refine dx_takeG 21 rfl rfl rfl rfl rfl rfl (by kernel_rfl) (by kernel_rfl) (by kernel_rfl) s14 (fun _ hS => px_mul rfl rfl (by omega)) ?_
   refine dx_takeG 22 rfl rfl rfl rfl rfl rfl (by kernel_rfl) (by kernel_rfl) (by kernel_rfl) s14 (fun _ hS => px_move rfl) ?_
   refine dx_takeG 23 rfl rfl rfl rfl rfl rfl (by kernel_rfl) (by kernel_rfl) (by kernel_rfl) s14 (fun _ hS => px_move rfl) ?_
   refine dx_takeG 24 rfl rfl rfl rfl rfl rfl (by kernel_rfl) (by kernel_rfl) (by kernel_rfl) s14 (fun _ hS => px_move rfl) ?_
   refine dx_takeG 25 rfl rfl rfl rfl rfl rfl (by kernel_rfl) (by kernel_rfl) (by kernel_rfl) s14 (fun _ hS => px_move rfl) ?_
   refine dx_takeG 26 rfl rfl rfl rfl rfl rfl (by kernel_rfl) (by kernel_rfl) (by kernel_rfl) s14 (fun _ hS => px_sub rfl rfl (by omega)) ?_
   refine dx_takeG 27 rfl rfl rfl rfl rfl rfl (by kernel_rfl) (by kernel_rfl) (by kernel_rfl) s14 (fun _ hS => px_index1 (j := (ys.length - 1)) rfl rfl (by omega) Tryz.underlying23 Tryz.sizeOf3 ((f13).chg hS (by omega)) (by omega)) ?_
   refine dx_takeG 28 rfl rfl rfl rfl rfl rfl (by kernel_rfl) (by kernel_rfl) (by kernel_rfl) s14 (fun _ hS => px_load rfl (((f13).chg hS (by omega)).load1 (at_int (by omega)) Tryz.isAgg3)) ?_
   refine dx_takeG 29 rfl rfl rfl rfl rfl rfl (by kernel_rfl) (by kernel_rfl) (by kernel_rfl) s14 (fun _ hS => px_mul rfl rfl (by omega)) ?_
   refine dx_takeG 30 rfl rfl rfl rfl rfl rfl (by kernel_rfl) (by kernel_rfl) (by kernel_rfl) s14 (fun _ hS => px_sub rfl rfl (by omega)) ?_
   refine dx_takeG 31 rfl rfl rfl rfl rfl rfl (by kernel_rfl) (by kernel_rfl) (by kernel_rfl) s14 (fun _ hS => px_mul rfl rfl (by omega)) ?_
   refine dx_takeG 32 rfl rfl rfl rfl rfl rfl (by kernel_rfl) (by kernel_rfl) (by kernel_rfl) s14 (fun _ hS => px_move rfl) ?_
   refine dx_takeG 33 rfl rfl rfl rfl rfl rfl (by kernel_rfl) (by kernel_rfl) (by kernel_rfl) s14 (fun _ hS => px_move rfl) ?_
   refine dx_takeG 34 rfl rfl rfl rfl rfl rfl (by kernel_rfl) (by kernel_rfl) (by kernel_rfl) s14 (fun _ hS => px_sub rfl rfl (by omega)) ?_
   refine dx_takeG 35 rfl rfl rfl rfl rfl rfl (by kernel_rfl) (by kernel_rfl) (by kernel_rfl) s14 (fun _ hS => px_index1 (j := (ys.length - 2)) rfl rfl (by omega) Tryz.underlying23 Tryz.sizeOf3 ((f12.sv).chg hS (by omega)) (by omega)) ?_
   refine dx_takeG 36 rfl rfl rfl rfl rfl rfl (by kernel_rfl) (by kernel_rfl) (by kernel_rfl) s14 (fun _ hS => px_load rfl (((f12.sv).chg hS (by omega)).load1 (at_int (by omega)) Tryz.isAgg3)) ?_
   refine dx_takeG 37 rfl rfl rfl rfl rfl rfl (by kernel_rfl) (by kernel_rfl) (by kernel_rfl) s14 (fun _ hS => px_add rfl rfl (by omega)) ?_
   refine dx_takeG 38 rfl rfl rfl rfl rfl rfl (by kernel_rfl) (by kernel_rfl) (by kernel_rfl) s14 (fun _ hS => px_gt rfl rfl) ?_
   refine dt 39 rfl rfl rfl rfl s14 (fun _ hS => px_pick rfl rfl) ?_
   refine dx_done (by kernel_rfl) ?_
   refine q_n (k10 _ _ ?_)
   refine sx_sub (Sub.c 0 rfl (.c 1 rfl (.c 5 rfl (.c 6 rfl (.c 7 rfl (.c 68 rfl .nil)))))) ?_
   refine sx_condP rfl (fun h44x2 => ?_) (fun h44x2 => ?_)
   ·
    refine sx_skip ?_
    refine q_n (k9 _ _ ?_)
    refine sx_block ?_
    refine sx_region ?_
    refine mv rfl rfl (sp rfl (px_sub rfl rfl (by omega)) ?_)
    refine av rfl rfl (wl_nil ?_)
    exact q_bn (fun a ha => ⟨_, by omega, (q - 1), ha.sub (Sub.c 0 rfl (.c 1 rfl (.c 5 rfl (.c 6 rfl (.c 7 (look_int (t := 7) rfl (by first | omega | simp)) .nil))))), (cwl8.t d14), rfl, guess_next h2 hzl rfl hz hy hv1 rfl hg (by omega) (by omega)⟩)
   refine sx_exit ?_
   refine q_e (q_e (q_bx (q_n (k7 _ _ ?_))))
   refine sx_seq fun K15 k15 => ?_
   refine sx_seq fun K16 k16 => ?_
   have hge := guess_end h2 hzl rfl hz hy hv1 rfl hg (by first | exact .inl (by omega) | exact .inr (.inl (by omega)) | exact .inr (.inr (by omega)))
   refine sx_region ?_
   refine mv rfl rfl (mv rfl rfl (mv rfl rfl ?_))
   have f17 := f12.ext d14
   have f18 := f13.ext d14
   refine sx_call rfl rfl Tryz.call109 (c_subTimes f17 f18 (by omega) (by omega) (by assumption) (by assumption) (by omega) (by omega)) (fun v19 w19 p19 => ?_)
   obtain ⟨os19, rfl, ova_19, hs19, c19⟩ := p19
   have zw19 := c19.size
   have hol := hs19.1.trans hzl
   have hlmx := hs19.2.1
   have hst := step_sub hzl hz hy rfl hV hq0 hg.up hge hol hs19.2.1 hs19.2.2
   refine wl_nil (q_n (k16 _ _ ?_))
   refine sx_condP rfl (fun h47 => ?_) (fun h47 => ?_)
   ·
    have hs2 := hst.2 h47
    have hs3 := hs2.1
    refine sx_seq fun K20 k20 => sx_region ?_
    refine mv rfl rfl (sp rfl (px_sub rfl rfl (by omega)) ?_)
    refine av rfl rfl (wl_nil (q_n (k20 _ _ ?_)))
    refine sx_region ?_
    refine mv rfl rfl (mv rfl rfl ?_)
    have f21 := f18.chg c19 (by omega)
    refine sx_call rfl rfl Tryz.call110 (c_addBack ova_19 f21 (by omega) (hol) (by assumption) (by assumption) (by omega) (by omega)) (fun v22 w22 p22 => ?_)
    obtain ⟨os22, rfl, ova_22, hs22, c22⟩ := p22
    have zw22 := c22.size
    have hfl := hs22.1.trans hol
    have hfin := hs2.2.2 _ hfl hs22.2.1 hs22.2.2
    refine wl_nil (q_n (k15 _ _ ?_))
    refine sx_sub (Sub.c 7 rfl .nil) ?_
    refine sx_seq fun K23 k23 => sx_region ?_
    refine mv rfl rfl (av rfl rfl (wl_nil (q_n (k23 _ _ ?_))))
    refine sx_retc ?_
    refine sx_ret1 Tryz.results78 rfl ?_
    have q24 := Chg.step (l := lva) (h := uva) (Chg.zero (l := lva) (h := uva) ((d4.t cwl8).t d14)) c19 (by omega)
    have q25 := Chg.step (l := lva) (h := uva) q24 c22 (by omega)
    exact ⟨_, by rw [hs2.2.1], ova_22, ⟨hfin.1, by omega, hfin.2⟩, q25⟩
   have hs1 := hst.1 (by omega)
   refine sx_skip ?_
   refine q_n (k15 _ _ ?_)
   refine sx_seq fun K26 k26 => sx_region ?_
   refine mv rfl rfl (av rfl rfl (wl_nil (q_n (k26 _ _ ?_))))
   refine sx_retc ?_
   refine sx_ret1 Tryz.results78 rfl ?_
   have q27 := Chg.step (l := lva) (h := uva) (Chg.zero (l := lva) (h := uva) ((d4.t cwl8).t d14)) c19 (by omega)
   exact ⟨_, by rw [hs1.1], ova_19, ⟨hs1.2.1, by omega, hs1.2.2⟩, q27⟩
  have f29 := (hva.ext d4).ext cwl8
  have f30 := f6.ext cwl8
  refine dx_region (fun w' => Chg 0 0 wl8 w') (by kernel_rfl) (Chg.zero (Chg.drew _)) ?_
  have d31 := Chg.drew wl8
  have s31 : Chg 0 0 wl8 (World.drew wl8) := Chg.zero (Chg.drew _)
  have y31 : (World.drew wl8).heap.size = wl8.heap.size := rfl
  generalize World.drew wl8 = w31 at *
  have zw31 := d31.size
  refine dt 0 rfl rfl rfl rfl s31 (fun _ hS => px_move rfl) ?_
  refine dt 1 rfl rfl rfl rfl s31 (fun _ hS => px_gt rfl rfl) ?_
  refine dt 2 rfl rfl rfl rfl s31 (fun _ hS => px_move rfl) ?_
  have h44 : (0 : Int) < q := by first | omega | exact ph44
  refine dx_tmpPT (t := 31) rfl h44 ?_
  refine dx_takeG 3 rfl rfl rfl rfl rfl rfl (by kernel_rfl) (by kernel_rfl) (by kernel_rfl) s31 (fun _ hS => px_move rfl) ?_
  refine dx_takeG 4 rfl rfl rfl rfl rfl rfl (by kernel_rfl) (by kernel_rfl) (by kernel_rfl) s31 (fun _ hS => px_move rfl) ?_
  refine dx_takeG 5 rfl rfl rfl rfl rfl rfl (by kernel_rfl) (by kernel_rfl) (by kernel_rfl) s31 (fun _ hS => px_move rfl) ?_
  refine dx_takeG 6 rfl rfl rfl rfl rfl rfl (by kernel_rfl) (by kernel_rfl) (by kernel_rfl) s31 (fun _ hS => px_move rfl) ?_
  refine dx_takeG 7 rfl rfl rfl rfl rfl rfl (by kernel_rfl) (by kernel_rfl) (by kernel_rfl) s31 (fun _ hS => px_sub rfl rfl (by omega)) ?_
  refine dx_takeG 8 rfl rfl rfl rfl rfl rfl (by kernel_rfl) (by kernel_rfl) (by kernel_rfl) s31 (fun _ hS => px_index1 (j := (ys.length - 1)) rfl rfl (by omega) Tryz.underlying23 Tryz.sizeOf3 ((f30).chg hS (by omega)) (by omega)) ?_
  refine dx_takeG 9 rfl rfl rfl rfl rfl rfl (by kernel_rfl) (by kernel_rfl) (by kernel_rfl) s31 (fun _ hS => px_load rfl (((f30).chg hS (by omega)).load1 (at_int (by omega)) Tryz.isAgg3)) ?_
  refine dx_takeG 10 rfl rfl rfl rfl rfl rfl (by kernel_rfl) (by kernel_rfl) (by kernel_rfl) s31 (fun _ hS => px_mul rfl rfl (by omega)) ?_
  refine dx_takeG 11 rfl rfl rfl rfl rfl rfl (by kernel_rfl) (by kernel_rfl) (by kernel_rfl) s31 (fun _ hS => px_sub rfl rfl (by omega)) ?_
  refine dx_takeG 12 rfl rfl rfl rfl rfl rfl (by kernel_rfl) (by kernel_rfl) (by kernel_rfl) s31 (fun _ hS => px_lt rfl rfl) ?_
  refine dt 13 rfl rfl rfl rfl s31 (fun _ hS => px_pick rfl rfl) ?_
  refine dt 14 rfl rfl rfl rfl s31 (fun _ hS => px_move rfl) ?_
  have h44x1 : ¬ ((((((zs).getD ((ys).length) 0) * 1000000000) + ((zs).getD ((ys).length - 1) 0)) - (q * ((ys).getD (ys.length - 1) 0)) : Int) < 1000000000) := by first | omega | exact ph44x1
  refine dx_tmpPF (t := 43) rfl h44x1 ?_
  refine dx_skip 15 rfl rfl rfl rfl rfl rfl rfl (by kernel_rfl) (by kernel_rfl) (by kernel_rfl) s31 ?_
  refine dx_skip 16 rfl rfl rfl rfl rfl rfl rfl (by kernel_rfl) (by kernel_rfl) (by kernel_rfl) s31 ?_
  refine dx_skip 17 rfl rfl rfl rfl rfl rfl rfl (by kernel_rfl) (by kernel_rfl) (by kernel_rfl) s31 ?_
  refine dx_skip 18 rfl rfl rfl rfl rfl rfl rfl (by kernel_rfl) (by kernel_rfl) (by kernel_rfl) s31 ?_
  refine dx_skip 19 rfl rfl rfl rfl rfl rfl rfl (by kernel_rfl) (by kernel_rfl) (by kernel_rfl) s31 ?_
  refine dx_skip 20 rfl rfl rfl rfl rfl rfl rfl (by kernel_rfl) (by kernel_rfl) (by kernel_rfl) s31 ?_
  refine dx_skip 21 rfl rfl rfl rfl rfl rfl rfl (by kernel_rfl) (by kernel_rfl) (by kernel_rfl) s31 ?_
  refine dx_skip 22 rfl rfl rfl rfl rfl rfl rfl (by kernel_rfl) (by kernel_rfl) (by kernel_rfl) s31 ?_
  refine dx_skip 23 rfl rfl rfl rfl rfl rfl rfl (by kernel_rfl) (by kernel_rfl) (by kernel_rfl) s31 ?_
  refine dx_skip 24 rfl rfl rfl rfl rfl rfl rfl (by kernel_rfl) (by kernel_rfl) (by kernel_rfl) s31 ?_
  refine dx_skip 25 rfl rfl rfl rfl rfl rfl rfl (by kernel_rfl) (by kernel_rfl) (by kernel_rfl) s31 ?_
  refine dx_skip 26 rfl rfl rfl rfl rfl rfl rfl (by kernel_rfl) (by kernel_rfl) (by kernel_rfl) s31 ?_
  refine dx_skip 27 rfl rfl rfl rfl rfl rfl rfl (by kernel_rfl) (by kernel_rfl) (by kernel_rfl) s31 ?_
  refine dx_skip 28 rfl rfl rfl rfl rfl rfl rfl (by kernel_rfl) (by kernel_rfl) (by kernel_rfl) s31 ?_
  refine dx_skip 29 rfl rfl rfl rfl rfl rfl rfl (by kernel_rfl) (by kernel_rfl) (by kernel_rfl) s31 ?_
  refine dx_skip 30 rfl rfl rfl rfl rfl rfl rfl (by kernel_rfl) (by kernel_rfl) (by kernel_rfl) s31 ?_
  refine dx_skip 31 rfl rfl rfl rfl rfl rfl rfl (by kernel_rfl) (by kernel_rfl) (by kernel_rfl) s31 ?_
  refine dx_skip 32 rfl rfl rfl rfl rfl rfl rfl (by kernel_rfl) (by kernel_rfl) (by kernel_rfl) s31 ?_
  refine dx_skip 33 rfl rfl rfl rfl rfl rfl rfl (by kernel_rfl) (by kernel_rfl) (by kernel_rfl) s31 ?_
  refine dx_skip 34 rfl rfl rfl rfl rfl rfl rfl (by kernel_rfl) (by kernel_rfl) (by kernel_rfl) s31 ?_
  refine dx_skip 35 rfl rfl rfl rfl rfl rfl rfl (by kernel_rfl) (by kernel_rfl) (by kernel_rfl) s31 ?_
  refine dx_skip 36 rfl rfl rfl rfl rfl rfl rfl (by kernel_rfl) (by kernel_rfl) (by kernel_rfl) s31 ?_
  refine dx_skip 37 rfl rfl rfl rfl rfl rfl rfl (by kernel_rfl) (by kernel_rfl) (by kernel_rfl) s31 ?_
  refine dx_skip 38 rfl rfl rfl rfl rfl rfl rfl (by kernel_rfl) (by kernel_rfl) (by kernel_rfl) s31 ?_
  refine dt 39 rfl rfl rfl rfl s31 (fun _ hS => px_pick rfl rfl) ?_
  refine dx_done (by kernel_rfl) ?_
  refine q_n (k10 _ _ ?_)
  refine sx_sub (Sub.c 0 rfl (.c 1 rfl (.c 5 rfl (.c 6 rfl (.c 7 rfl (.c 68 rfl .nil)))))) ?_
  refine sx_condF rfl ?_
  refine sx_exit ?_
  refine q_e (q_e (q_bx (q_n (k7 _ _ ?_))))
  refine sx_seq fun K32 k32 => ?_
  refine sx_seq fun K33 k33 => ?_
  have hge := guess_end h2 hzl rfl hz hy hv1 rfl hg (by first | exact .inl (by omega) | exact .inr (.inl (by omega)) | exact .inr (.inr (by omega)))
  refine sx_region ?_
  refine mv rfl rfl (mv rfl rfl (mv rfl rfl ?_))
  have f34 := f29.ext d31
  have f35 := f30.ext d31
  refine sx_call rfl rfl Tryz.call109 (c_subTimes f34 f35 (by omega) (by omega) (by assumption) (by assumption) (by omega) (by omega)) (fun v36 w36 p36 => ?_)
  obtain ⟨os36, rfl, ova_36, hs36, c36⟩ := p36
  have zw36 := c36.size
  have hol := hs36.1.trans hzl
  have hlmx := hs36.2.1
  have hst := step_sub hzl hz hy rfl hV hq0 hg.up hge hol hs36.2.1 hs36.2.2
  refine wl_nil (q_n (k33 _ _ ?_))
  refine sx_condP rfl (fun h47 => ?_) (fun h47 => ?_)
  ·
   have hs2 := hst.2 h47
   have hs3 := hs2.1
   refine sx_seq fun K37 k37 => sx_region ?_
   refine mv rfl rfl (sp rfl (px_sub rfl rfl (by omega)) ?_)
   refine av rfl rfl (wl_nil (q_n (k37 _ _ ?_)))
   refine sx_region ?_
   refine mv rfl rfl (mv rfl rfl ?_)
   have f38 := f35.chg c36 (by omega)
   refine sx_call rfl rfl Tryz.call110 (c_addBack ova_36 f38 (by omega) (hol) (by assumption) (by assumption) (by omega) (by omega)) (fun v39 w39 p39 => ?_)
   obtain ⟨os39, rfl, ova_39, hs39, c39⟩ := p39
   have zw39 := c39.size
   have hfl := hs39.1.trans hol
   have hfin := hs2.2.2 _ hfl hs39.2.1 hs39.2.2
   refine wl_nil (q_n (k32 _ _ ?_))
   refine sx_sub (Sub.c 7 rfl .nil) ?_
   refine sx_seq fun K40 k40 => sx_region ?_
   refine mv rfl rfl (av rfl rfl (wl_nil (q_n (k40 _ _ ?_))))
   refine sx_retc ?_
   refine sx_ret1 Tryz.results78 rfl ?_
   have q41 := Chg.step (l := lva) (h := uva) (Chg.zero (l := lva) (h := uva) ((d4.t cwl8).t d31)) c36 (by omega)
   have q42 := Chg.step (l := lva) (h := uva) q41 c39 (by omega)
   exact ⟨_, by rw [hs2.2.1], ova_39, ⟨hfin.1, by omega, hfin.2⟩, q42⟩
  have hs1 := hst.1 (by omega)
  refine sx_skip ?_
  refine q_n (k32 _ _ ?_)
  refine sx_seq fun K43 k43 => sx_region ?_
  refine mv rfl rfl (av rfl rfl (wl_nil (q_n (k43 _ _ ?_))))
  refine sx_retc ?_
  refine sx_ret1 Tryz.results78 rfl ?_
  have q44 := Chg.step (l := lva) (h := uva) (Chg.zero (l := lva) (h := uva) ((d4.t cwl8).t d31)) c36 (by omega)
  exact ⟨_, by rw [hs1.1], ova_36, ⟨hs1.2.1, by omega, hs1.2.2⟩, q44⟩
 have f46 := (hva.ext d4).ext cwl8
 have f47 := f6.ext cwl8
 refine dx_region (fun w' => Chg 0 0 wl8 w') (by kernel_rfl) (Chg.zero (Chg.drew _)) ?_
 have d48 := Chg.drew wl8
 have s48 : Chg 0 0 wl8 (World.drew wl8) := Chg.zero (Chg.drew _)
 have y48 : (World.drew wl8).heap.size = wl8.heap.size := rfl
 generalize World.drew wl8 = w48 at *
 have zw48 := d48.size
 refine dt 0 rfl rfl rfl rfl s48 (fun _ hS => px_move rfl) ?_
 refine dt 1 rfl rfl rfl rfl s48 (fun _ hS => px_gt rfl rfl) ?_
 refine dt 2 rfl rfl rfl rfl s48 (fun _ hS => px_move rfl) ?_
 have h44 : ¬ ((0 : Int) < q) := by first | omega | exact ph44
 refine dx_tmpPF (t := 31) rfl h44 ?_
 refine dx_skip 3 rfl rfl rfl rfl rfl rfl rfl (by kernel_rfl) (by kernel_rfl) (by kernel_rfl) s48 ?_
 refine dx_skip 4 rfl rfl rfl rfl rfl rfl rfl (by kernel_rfl) (by kernel_rfl) (by kernel_rfl) s48 ?_
 refine dx_skip 5 rfl rfl rfl rfl rfl rfl rfl (by kernel_rfl) (by kernel_rfl) (by kernel_rfl) s48 ?_
 refine dx_skip 6 rfl rfl rfl rfl rfl rfl rfl (by kernel_rfl) (by kernel_rfl) (by kernel_rfl) s48 ?_
 refine dx_skip 7 rfl rfl rfl rfl rfl rfl rfl (by kernel_rfl) (by kernel_rfl) (by kernel_rfl) s48 ?_
 refine dx_skip 8 rfl rfl rfl rfl rfl rfl rfl (by kernel_rfl) (by kernel_rfl) (by kernel_rfl) s48 ?_
 refine dx_skip 9 rfl rfl rfl rfl rfl rfl rfl (by kernel_rfl) (by kernel_rfl) (by kernel_rfl) s48 ?_
 refine dx_skip 10 rfl rfl rfl rfl rfl rfl rfl (by kernel_rfl) (by kernel_rfl) (by kernel_rfl) s48 ?_
 refine dx_skip 11 rfl rfl rfl rfl rfl rfl rfl (by kernel_rfl) (by kernel_rfl) (by kernel_rfl) s48 ?_
 refine dx_skip 12 rfl rfl rfl rfl rfl rfl rfl (by kernel_rfl) (by kernel_rfl) (by kernel_rfl) s48 ?_
 refine dt 13 rfl rfl rfl rfl s48 (fun _ hS => px_pick rfl rfl) ?_
 refine dt 14 rfl rfl rfl rfl s48 (fun _ hS => px_move rfl) ?_
 refine dx_skip 15 rfl rfl rfl rfl rfl rfl rfl (by kernel_rfl) (by kernel_rfl) (by kernel_rfl) s48 ?_
 refine dx_skip 16 rfl rfl rfl rfl rfl rfl rfl (by kernel_rfl) (by kernel_rfl) (by kernel_rfl) s48 ?_
 refine dx_skip 17 rfl rfl rfl rfl rfl rfl rfl (by kernel_rfl) (by kernel_rfl) (by kernel_rfl) s48 ?_
 refine dx_skip 18 rfl rfl rfl rfl rfl rfl rfl (by kernel_rfl) (by kernel_rfl) (by kernel_rfl) s48 ?_
 refine dx_skip 19 rfl rfl rfl rfl rfl rfl rfl (by kernel_rfl) (by kernel_rfl) (by kernel_rfl) s48 ?_
 refine dx_skip 20 rfl rfl rfl rfl rfl rfl rfl (by kernel_rfl) (by kernel_rfl) (by kernel_rfl) s48 ?_
 refine dx_skip 21 rfl rfl rfl rfl rfl rfl rfl (by kernel_rfl) (by kernel_rfl) (by kernel_rfl) s48 ?_
 refine dx_skip 22 rfl rfl rfl rfl rfl rfl rfl (by kernel_rfl) (by kernel_rfl) (by kernel_rfl) s48 ?_
 refine dx_skip 23 rfl rfl rfl rfl rfl rfl rfl (by kernel_rfl) (by kernel_rfl) (by kernel_rfl) s48 ?_
 refine dx_skip 24 rfl rfl rfl rfl rfl rfl rfl (by kernel_rfl) (by kernel_rfl) (by kernel_rfl) s48 ?_
 refine dx_skip 25 rfl rfl rfl rfl rfl rfl rfl (by kernel_rfl) (by kernel_rfl) (by kernel_rfl) s48 ?_
 refine dx_skip 26 rfl rfl rfl rfl rfl rfl rfl (by kernel_rfl) (by kernel_rfl) (by kernel_rfl) s48 ?_
 refine dx_skip 27 rfl rfl rfl rfl rfl rfl rfl (by kernel_rfl) (by kernel_rfl) (by kernel_rfl) s48 ?_
 refine dx_skip 28 rfl rfl rfl rfl rfl rfl rfl (by kernel_rfl) (by kernel_rfl) (by kernel_rfl) s48 ?_
 refine dx_skip 29 rfl rfl rfl rfl rfl rfl rfl (by kernel_rfl) (by kernel_rfl) (by kernel_rfl) s48 ?_
 refine dx_skip 30 rfl rfl rfl rfl rfl rfl rfl (by kernel_rfl) (by kernel_rfl) (by kernel_rfl) s48 ?_
 refine dx_skip 31 rfl rfl rfl rfl rfl rfl rfl (by kernel_rfl) (by kernel_rfl) (by kernel_rfl) s48 ?_
 refine dx_skip 32 rfl rfl rfl rfl rfl rfl rfl (by kernel_rfl) (by kernel_rfl) (by kernel_rfl) s48 ?_
 refine dx_skip 33 rfl rfl rfl rfl rfl rfl rfl (by kernel_rfl) (by kernel_rfl) (by kernel_rfl) s48 ?_
 refine dx_skip 34 rfl rfl rfl rfl rfl rfl rfl (by kernel_rfl) (by kernel_rfl) (by kernel_rfl) s48 ?_
 refine dx_skip 35 rfl rfl rfl rfl rfl rfl rfl (by kernel_rfl) (by kernel_rfl) (by kernel_rfl) s48 ?_
 refine dx_skip 36 rfl rfl rfl rfl rfl rfl rfl (by kernel_rfl) (by kernel_rfl) (by kernel_rfl) s48 ?_
 refine dx_skip 37 rfl rfl rfl rfl rfl rfl rfl (by kernel_rfl) (by kernel_rfl) (by kernel_rfl) s48 ?_
 refine dx_skip 38 rfl rfl rfl rfl rfl rfl rfl (by kernel_rfl) (by kernel_rfl) (by kernel_rfl) s48 ?_
 refine dt 39 rfl rfl rfl rfl s48 (fun _ hS => px_pick rfl rfl) ?_
 refine dx_done (by kernel_rfl) ?_
 refine q_n (k10 _ _ ?_)
 refine sx_sub (Sub.c 0 rfl (.c 1 rfl (.c 5 rfl (.c 6 rfl (.c 7 rfl (.c 68 rfl .nil)))))) ?_
 refine sx_condF rfl ?_
 refine sx_exit ?_
 refine q_e (q_e (q_bx (q_n (k7 _ _ ?_))))
 refine sx_seq fun K49 k49 => ?_
 refine sx_seq fun K50 k50 => ?_
 have hge := guess_end h2 hzl rfl hz hy hv1 rfl hg (by first | exact .inl (by omega) | exact .inr (.inl (by omega)) | exact .inr (.inr (by omega)))
 refine sx_region ?_
 refine mv rfl rfl (mv rfl rfl (mv rfl rfl ?_))
 have f51 := f46.ext d48
 have f52 := f47.ext d48
 refine sx_call rfl rfl Tryz.call109 (c_subTimes f51 f52 (by omega) (by omega) (by assumption) (by assumption) (by omega) (by omega)) (fun v53 w53 p53 => ?_)
 obtain ⟨os53, rfl, ova_53, hs53, c53⟩ := p53
 have zw53 := c53.size
 have hol := hs53.1.trans hzl
 have hlmx := hs53.2.1
 have hst := step_sub hzl hz hy rfl hV hq0 hg.up hge hol hs53.2.1 hs53.2.2
 refine wl_nil (q_n (k50 _ _ ?_))
 refine sx_condP rfl (fun h47 => ?_) (fun h47 => ?_)
 ·
  have hs2 := hst.2 h47
  have hs3 := hs2.1
  refine sx_seq fun K54 k54 => sx_region ?_
  refine mv rfl rfl (sp rfl (px_sub rfl rfl (by omega)) ?_)
  refine av rfl rfl (wl_nil (q_n (k54 _ _ ?_)))
  refine sx_region ?_
  refine mv rfl rfl (mv rfl rfl ?_)
  have f55 := f52.chg c53 (by omega)
  refine sx_call rfl rfl Tryz.call110 (c_addBack ova_53 f55 (by omega) (hol) (by assumption) (by assumption) (by omega) (by omega)) (fun v56 w56 p56 => ?_)
  obtain ⟨os56, rfl, ova_56, hs56, c56⟩ := p56
  have zw56 := c56.size
  have hfl := hs56.1.trans hol
  have hfin := hs2.2.2 _ hfl hs56.2.1 hs56.2.2
  refine wl_nil (q_n (k49 _ _ ?_))
  refine sx_sub (Sub.c 7 rfl .nil) ?_
  refine sx_seq fun K57 k57 => sx_region ?_
  refine mv rfl rfl (av rfl rfl (wl_nil (q_n (k57 _ _ ?_))))
  refine sx_retc ?_
  refine sx_ret1 Tryz.results78 rfl ?_
  have q58 := Chg.step (l := lva) (h := uva) (Chg.zero (l := lva) (h := uva) ((d4.t cwl8).t d48)) c53 (by omega)
  have q59 := Chg.step (l := lva) (h := uva) q58 c56 (by omega)
  exact ⟨_, by rw [hs2.2.1], ova_56, ⟨hfin.1, by omega, hfin.2⟩, q59⟩
 have hs1 := hst.1 (by omega)
 refine sx_skip ?_
 refine q_n (k49 _ _ ?_)
 refine sx_seq fun K60 k60 => sx_region ?_
 refine mv rfl rfl (av rfl rfl (wl_nil (q_n (k60 _ _ ?_))))
 refine sx_retc ?_
 refine sx_ret1 Tryz.results78 rfl ?_
 have q61 := Chg.step (l := lva) (h := uva) (Chg.zero (l := lva) (h := uva) ((d4.t cwl8).t d48)) c53 (by omega)
 exact ⟨_, by rw [hs1.1], ova_53, ⟨hs1.2.1, by omega, hs1.2.2⟩, q61⟩

theorem c_natDiv {w : World} {va : Value} {lva uva : Nat} {m : Nat} {vb : Value} {lvb uvb : Nat} {n : Nat} (hva : Sl w lva uva va (dg m)) (hvb : Sl w lvb uvb vb (dg n)) (hbm : (dg m).length ≤ 400) (hbn : (dg n).length ≤ 400) (hn0 : 0 < n) :
  Ret Tryz.prog 40 [va, vb] w fun v w' => ∃ s t, v = .tuple #[s, t] ∧ OwnI w' w.heap.size w'.heap.size s intT (dg (m / n)) ∧ OwnI w' w.heap.size w'.heap.size t intT (dg (m % n)) ∧ Chg 0 0 w w' := by
 have hva0 := hva.fit
 have hvb0 := hvb.fit
 have htp := dg_top hn0
 have hbt := (Lm_dg n).getD ((dg n).length - 1)
 refine sx_enter Tryz.func40 rfl Tryz.ntmps40 (nbl rfl) ?_
 refine sx_seq fun K1 k1 => sx_region ?_
 refine av rfl rfl (av rfl rfl (wl_nil (q_n (k1 _ _ ?_))))
 refine sx_seq fun K2 k2 => ?_
 refine sx_seq fun K3 k3 => sx_region ?_
 refine mv rfl rfl (mv rfl rfl (sx_call rfl rfl Tryz.call74 (c_natCmp hva0 hvb0 (by omega)) (fun v4 w4 p4 => ?_)))
 obtain ⟨rfl, c4⟩ := p4
 have zw4 := c4.size
 refine sp rfl (px_lt rfl rfl) ?_
 refine wl_nil (q_n (k3 _ _ ?_))
 refine sx_condP rfl (fun h17 => ?_) (fun h17 => ?_)
 ·
  rw [cmpL_dg] at h17
  have hlt := cmpN_neg.1 h17
  refine sx_seq fun K5 k5 => sx_region ?_
  refine sx_lit0 rfl xelt23 (fun s6 ws6 ss6 fs6 cs6 => ?_)
  have zws6 := cs6.size
  refine mv rfl rfl ?_
  have f8 := (hva0.ext c4).ext cs6
  refine sx_call rfl rfl Tryz.call75 (c_natCopy f8 (by omega)) (fun v9 w9 p9 => ?_)
  obtain ⟨s9, rfl, os_9, c9⟩ := p9
  have zw9 := c9.size
  refine av rfl rfl (av rfl rfl (wl_nil (q_n (k5 _ _ ?_))))
  refine sx_retc ?_
  refine q_r (sx_ret2 Tryz.results40 rfl rfl ?_)
  rw [Nat.div_eq_of_lt hlt, Nat.mod_eq_of_lt hlt, dg_zero]
  have f10 := fs6.ext c9
  exact ⟨_, _, rfl, (Own.mono f10 (by omega) (by omega)), (Own.mono os_9 (by omega) (by omega)), ((c4.t cs6).t c9)⟩
 rw [cmpL_dg] at h17
 have hge := Nat.le_of_not_lt (mt cmpN_neg.2 h17)
 have hab := len_le hge
 have hb0 := len_pos.2 hn0
 refine sx_skip ?_
 refine q_n (k2 _ _ ?_)
 refine sx_seq fun K11 k11 => ?_
 refine sx_seq fun K12 k12 => sx_region ?_
 refine mv rfl rfl ?_
 have f13 := hvb0.ext c4
 refine sp rfl (px_len rfl Tryz.underlying23 f13) ?_
 refine sp rfl (px_eq rfl rfl) ?_
 refine wl_nil (q_n (k12 _ _ ?_))
 refine sx_condP rfl (fun h20 => ?_) (fun h20 => ?_)
 ·
  refine sx_seq fun K14 k14 => sx_region ?_
  refine mv rfl rfl (mv rfl rfl (sp rfl (px_index1 (j := 0) rfl rfl (by omega) Tryz.underlying23 Tryz.sizeOf3 f13 (by omega)) ?_))
  refine sp rfl (px_load rfl (f13.load1 (at_int (by omega)) Tryz.isAgg3)) ?_
  have f15 := hva0.ext c4
  refine sx_call rfl rfl Tryz.call76 (c_natSmall f15 (by omega) (by have h9 := one_limb (n := n) (by omega); omega)) (fun v16 w16 p16 => ?_)
  obtain ⟨s16, rfl, os_16, c16⟩ := p16
  have zw16 := c16.size
  refine mv rfl rfl (sp rfl (px_ex2 rfl rfl) ?_)
  refine sp rfl (px_ex2 rfl rfl) ?_
  refine av rfl rfl (av rfl rfl (wl_nil (q_n (k14 _ _ ?_))))
  refine sx_sub (Sub.c 0 rfl (.c 1 rfl (.c 4 rfl (.c 5 rfl (.c 6 rfl (.c 7 rfl .nil)))))) ?_
  refine sx_seq fun K17 k17 => sx_region ?_
  refine mv rfl rfl (mv rfl rfl (sx_call rfl rfl Tryz.call77 (c_iNatOf (by have h9 := one_limb (n := n) (by omega); have h8 := Nat.mod_lt m (show 0 < ((dg n).getD 0 0).toNat by omega); omega)) (fun v18 w18 p18 => ?_)))
  obtain ⟨s18, rfl, os_18, c18⟩ := p18
  have zw18 := c18.size
  refine av rfl rfl (av rfl rfl (wl_nil (q_n (k17 _ _ ?_))))
  refine sx_retc ?_
  refine q_r (sx_ret2 Tryz.results40 rfl rfl ?_)
  have e1 := (one_limb (n := n) (by omega)).1
  have f19 := os_16.ext c18
  have r1 := f19
  have r2 := os_18
  rw [Int.toNat_natCast] at r2
  rw [e1] at r1 r2
  exact ⟨_, _, rfl, r1.mono (by omega) (by omega), r2.mono (by omega) (by omega), ((c4.t c16).t c18)⟩
 refine sx_skip ?_
 refine q_n (k11 _ _ ?_)
 refine sx_seq fun K20 k20 => sx_region ?_
 refine mv rfl rfl (mv rfl rfl (sp rfl (px_len rfl Tryz.underlying23 f13) ?_))
 refine sp rfl (px_sub rfl rfl (by omega)) ?_
 refine sp rfl (px_index1 (j := ((dg n).length - 1)) rfl rfl (by omega) Tryz.underlying23 Tryz.sizeOf3 f13 (by omega)) ?_
 refine sp rfl (px_load rfl (f13.load1 (at_int (by omega)) Tryz.isAgg3)) ?_
 refine sp rfl (px_add rfl rfl (by omega)) ?_
 refine sp rfl (px_quo rfl rfl (by omega) (by omega) (by omega)) ?_
 refine av rfl rfl (wl_nil (q_n (k20 _ _ ?_)))
 refine sx_sub (Sub.c 0 rfl (.c 1 rfl (.c 4 rfl (.c 5 rfl (.c 8 rfl .nil))))) ?_
 refine sx_seq fun K21 k21 => ?_
 have hsb := scale_bd htp (by omega)
 generalize 1000000000 / (((dg n).getD ((dg n).length - 1) 0) + 1) = s at *
 have evs : vl [s] = s.toNat := by simp [vl]
 have hpos : 0 < n * s.toNat := Nat.mul_pos hn0 (by omega)
 refine sx_region ?_
 refine mv rfl rfl (mv rfl rfl ?_)
 refine sx_lit1 rfl xelt23 rfl rfl (fun s22 ws22 ss22 fs22 cs22 => ?_)
 have ns22 := Own.norm (f := (Value.int .i64)) (zs := [s]) fs22
 have zws22 := cs22.size
 have f24 := (hva0.ext c4).ext cs22
 refine sx_call rfl rfl Tryz.call49 (c_natMulS f24 ns22.sv (by omega) (by simp only [List.length_cons, List.length_nil]; omega) (one_dg (by omega) (by omega))) (fun v25 w25 p25 => ?_)
 obtain ⟨s25, rfl, os_25, c25⟩ := p25
 have zw25 := c25.size
 refine av rfl rfl (wl_nil (q_n (k21 _ _ ?_)))
 refine sx_seq fun K26 k26 => ?_
 have f27 := os_25
 rw [evs] at f27
 refine sx_region ?_
 refine mv rfl rfl (mv rfl rfl ?_)
 refine sx_lit1 rfl xelt23 rfl rfl (fun s28 ws28 ss28 fs28 cs28 => ?_)
 have ns28 := Own.norm (f := (Value.int .i64)) (zs := [s]) fs28
 have zws28 := cs28.size
 have f29 := f13.ext cs22
 have f31 := (f29.ext c25).ext cs28
 refine sx_call rfl rfl Tryz.call49 (c_natMulS f31 ns28.sv (by omega) (by simp only [List.length_cons, List.length_nil]; omega) (one_dg (by omega) (by omega))) (fun v32 w32 p32 => ?_)
 obtain ⟨s32, rfl, os_32, c32⟩ := p32
 have zw32 := c32.size
 refine av rfl rfl (wl_nil (q_n (k26 _ _ ?_)))
 refine sx_sub (Sub.c 0 rfl (.c 4 rfl (.c 5 rfl (.c 8 rfl (.c 9 rfl (.c 10 rfl .nil)))))) ?_
 refine sx_seq fun K33 k33 => ?_
 refine sx_block ?_
 have f34 := os_32
 rw [evs] at f34
 have hlv := scale_len hn0 hsb.1 hsb.2.2
 have hlu := len_mul m s.toNat
 have hl1 : (dg s.toNat).length ≤ 1 := dg_len_le (by simp only [Bs]; omega)
 have f36 := f27.ext cs28
 have f37 := f36.ext c32
 refine sx_loop (fun mm aa w' => ∃ (su : Value) (us : List Int) (gl : Nat) (gh : Nat), Agr 97 [(0, va), (8, .int .i64 s), (9, su), (10, v32)] aa ∧ Chg ws22.heap.size w32.heap.size w32 w' ∧ Own w' gl gh su intT us.length 1 (us.map (Value.int .i64)) ∧ Own w' ws28.heap.size w32.heap.size v32 intT ((dg (n * s.toNat)).length) 1 ((dg (n * s.toNat)).map (Value.int .i64)) ∧ (mm = (dg m).length + 1 - us.length) ∧ ((gl = ws22.heap.size ∧ gh = w25.heap.size) ∨ w32.heap.size ≤ gl) ∧ (gl ≤ w'.heap.size ∧ gh ≤ w'.heap.size) ∧ (Lm us) ∧ (vl us = m * s.toNat) ∧ (us.length ≤ (dg m).length + 1)) (_) (fun a ha => ⟨v25, dg (m * s.toNat), ws22.heap.size, w25.heap.size, ha.sub (Sub.c 0 rfl (.c 8 rfl (.c 9 rfl (.c 10 rfl .nil)))), Chg.refl _ _ _, f37, f34, rfl, .inl ⟨rfl, rfl⟩, by omega, Lm_dg _, vl_dg _, by omega⟩) ?_
 rintro mm aa wl35 ⟨su, us, gl, gh, hAwl35, cwl35, hs_su, hs_v32, hm, hgl, hgh, hlm, hv, hul⟩
 refine (show cw Tryz.prog 97 _ _ _ wl35 from ?_) aa hAwl35
 clear hAwl35
 have zwl35 := cwl35.size
 refine sx_seq fun K38 k38 => ?_
 refine sx_seq fun K39 k39 => sx_region ?_
 refine mv rfl rfl (sp rfl (px_len rfl Tryz.underlying23 hs_su.sv) ?_)
 refine mv rfl rfl ?_
 have f41 := (f24.ext c25).ext cs28
 have f43 := (f41.ext c32).chg cwl35 (by omega)
 refine sp rfl (px_len rfl Tryz.underlying23 f43) ?_
 refine sp rfl (px_le rfl rfl) ?_
 refine wl_nil (q_n (k39 _ _ ?_))
 refine sx_condP rfl (fun h27 => ?_) (fun h27 => ?_)
 ·
  refine sx_skip ?_
  refine q_n (k38 _ _ ?_)
  refine sx_block ?_
  refine sx_region ?_
  refine mv rfl rfl ?_
  refine sx_lit1 rfl xelt23 rfl rfl (fun s44 ws44 ss44 fs44 cs44 => ?_)
  have ns44 := Own.norm (f := (Value.int .i64)) (zs := [0]) fs44
  have zws44 := cs44.size
  have f46 := hs_su.ext cs44
  refine sx_append2 rfl xelt23 rfl rfl f46 ns44.sv (by simp) one_int (by omega) (by simp only [List.length_cons, List.length_nil]; omega) (by unfold maxLen; simp only [List.length_cons, List.length_nil]; omega) (fun a45 w45 alw45 ahw45 adw45 fw45 cw45 => ?_)
  have nw45 := Own.app (f := (Value.int .i64)) (a := us) (b := [0]) fw45
  have zw45 := cw45.size
  refine av rfl rfl (wl_nil ?_)
  have q47 := Chg.step (l := ws22.heap.size) (h := w32.heap.size) cwl35 cs44 (by omega)
  have q48 := Chg.step (l := ws22.heap.size) (h := w32.heap.size) q47 cw45 (by omega)
  have f49 := hs_v32.ext cs44
  have f50 := f49.chg cw45 (by omega)
  have happ : (us ++ ([0])).length = us.length + 1 := by simp
  exact q_bn (fun a ha => ⟨_, by omega, a45, (us ++ ([0])), alw45, ahw45, ha.sub (Sub.c 0 rfl (.c 8 rfl (.c 9 rfl (.c 10 rfl .nil)))), q48, (nw45.mono (by omega) (by omega)), (f50.mono (by omega) (by omega)), rfl, by omega, by omega, hlm.append (Lm.single (by decide) (by decide)), by rw [vl_concat]; simpa using hv, by simp only [List.length_append, List.length_cons, List.length_nil]; omega⟩)
 refine sx_exit ?_
 refine q_e (q_e (q_bx (q_n (k33 _ _ ?_))))
 refine sx_seq fun K51 k51 => ?_
 have hul2 : us.length = (dg m).length + 1 := by omega
 refine sx_region ?_
 refine mv rfl rfl (sp rfl (px_len rfl Tryz.underlying23 hs_v32.sv) ?_)
 refine av rfl rfl (wl_nil (q_n (k51 _ _ ?_)))
 refine sx_seq fun K52 k52 => sx_region ?_
 refine mv rfl rfl (sp rfl (px_len rfl Tryz.underlying23 hs_su.sv) ?_)
 refine mv rfl rfl (sp rfl (px_sub rfl rfl (by omega)) ?_)
 refine sx_make (c := (us.length - (dg (n * s.toNat)).length)) rfl xelt23 (look_int rfl (by omega)) (look_int rfl (by omega)) (by omega) (by unfold maxLen; omega) (fun s53 ws53 fs53 cs53 ls53 => ?_)
 have ns53 := fs53.made
 have zws53 := cs53.size
 refine av rfl rfl (wl_nil (q_n (k52 _ _ ?_)))
 refine sx_sub (Sub.c 8 rfl (.c 9 rfl (.c 10 rfl (.c 11 rfl (.c 12 rfl .nil))))) ?_
 refine sx_seq fun K54 k54 => ?_
 refine sx_seq fun K55 k55 => ?_
 have hrl : (List.replicate (us.length - (dg (n * s.toNat)).length) (0 : Int)).length = us.length - (dg (n * s.toNat)).length := List.length_replicate
 refine sx_region ?_
 refine mv rfl rfl (sp rfl (px_len rfl Tryz.underlying23 ns53.sv) ?_)
 refine sp rfl (px_sub rfl rfl (by omega)) ?_
 refine av rfl rfl (wl_nil (q_n (k55 _ _ ?_)))
 refine sx_block ?_
 have f57 := hs_su.ext cs53
 have f58 := hs_v32.ext cs53
 refine sx_loop (fun mm aa w' => ∃ (k : Nat) (U : List Int) (qs : List Int), Agr 97 [(8, .int .i64 s), (9, su), (10, v32), (11, .int .i64 (↑(dg (n * s.toNat)).length)), (12, s53), (13, .int .i64 (↑k - 1))] aa ∧ Chg ws22.heap.size ws53.heap.size ws53 w' ∧ Own w' gl gh su intT U.length 1 (U.map (Value.int .i64)) ∧ Own w' wl35.heap.size ws53.heap.size s53 intT qs.length 1 (qs.map (Value.int .i64)) ∧ Own w' ws28.heap.size w32.heap.size v32 intT ((dg (n * s.toNat)).length) 1 ((dg (n * s.toNat)).map (Value.int .i64)) ∧ (mm = k) ∧ (k ≤ ((dg m).length + 1 - (dg n).length)) ∧ (qs.length = ((dg m).length + 1 - (dg n).length)) ∧ (U.length = (dg m).length + 1) ∧ (Lm U) ∧ (Lm qs) ∧ (vl (U.drop k) < n * s.toNat) ∧ (m * s.toNat = vl U + Bs ^ k * (n * s.toNat * vl (qs.drop k)))) (_) (fun a ha => ⟨((dg m).length + 1 - (dg n).length), us, List.replicate (us.length - (dg (n * s.toNat)).length) 0, ha.sub (Sub.c 8 rfl (.c 9 rfl (.c 10 rfl (.c 11 (look_int (t := 11) rfl (by first | omega | (simp only [List.length_replicate]; omega) | simp)) (.c 12 rfl (.c 13 (look_int (t := 13) rfl (by first | omega | (simp only [List.length_replicate]; omega) | simp)) .nil)))))), Chg.refl _ _ _, f57, ns53, f58, rfl, by omega, by rw [List.length_replicate]; omega, by omega, by omega, Lm.replicate _, top_init hul2 rfl rfl (len_pos.2 hn0) (by omega) (by omega) hv, by rw [vl_drop_end (by rw [List.length_replicate]; omega)]; simpa using hv.symm⟩) ?_
 rintro mm aa wl56 ⟨k, U, qs, hAwl56, cwl56, hs_su, hs_s53, hs_v32, hm, hk, hql, hUl, hUm, hQm, htp, hV⟩
 refine (show cw Tryz.prog 97 _ _ _ wl56 from ?_) aa hAwl56
 clear hAwl56
 have zwl56 := cwl56.size
 refine sx_seq fun K59 k59 => ?_
 refine sx_seq fun K60 k60 => sx_region ?_
 refine mv rfl rfl (sp rfl (px_ge rfl rfl) ?_)
 refine wl_nil (q_n (k60 _ _ ?_))
 refine sx_condP rfl (fun h32 => ?_) (fun h32 => ?_)
 ·
  refine sx_skip ?_
  refine q_n (k59 _ _ ?_)
  refine sx_seq fun K61 k61 => ?_
  refine sx_block ?_
  have hw := win_of (j := k - 1) (n := (dg (n * s.toNat)).length) hUm (by omega) (lt_of_dg_len (Nat.le_refl _)) (by rw [Nat.sub_add_cancel (by omega)]; exact htp)
  refine sx_region ?_
  refine mv rfl rfl (mv rfl rfl (mv rfl rfl (mv rfl rfl (mv rfl rfl ?_))))
  refine mv rfl rfl (sp rfl (px_add rfl rfl (by omega)) ?_)
  refine sp rfl (px_add rfl rfl (by omega)) ?_
  obtain ⟨suf62, hw62, hb62⟩ := Own.win hs_su (a := (k - 1)) (b := (k - 1 + (dg (n * s.toNat)).length + 1)) (by omega) (by omega)
  refine sp rfl (px_sliceMid (l := (k - 1)) (h := (k - 1 + (dg (n * s.toNat)).length + 1)) rfl rfl rfl (by omega) (by omega) Tryz.underlying23 Tryz.sizeOf3 hs_su.sv (by omega) (by omega)) ?_
  refine mv rfl rfl (sx_call rfl rfl Tryz.call78 (c_divStep hw62 hs_v32.sv (by omega) (by rw [List.length_take, List.length_drop]; omega) (by omega) (Lm.take (Lm.drop hUm _) _) (Lm_dg _) (dg_getD_pos hpos rfl) (by rw [vl_dg, hw.1]; exact hw.2.1) (by rw [List.length_take, List.length_drop]; omega)) (fun v63 w63 p63 => ?_))
  obtain ⟨os63, rfl, ova_63, hs63, c63⟩ := p63
  have zw63 := c63.size
  have f64 := hb62 _ _ ova_63
  have hol := hs63.2.1
  rw [List.length_take, List.length_drop] at hol
  have hdl := hs63.1
  have hp := div_put (us := U) (qs := qs) (ys := os63) (n := (dg (n * s.toNat)).length) (V := n * s.toNat) (by omega) (by omega) (by omega) rfl hw.2.2 (by omega) (by rw [hs63.2.2, hw.1, vl_dg]) hV
  have hqd : vl ((U.drop (k - 1)).take (k - 1 + (dg (n * s.toNat)).length + 1 - (k - 1))) / vl (dg (n * s.toNat)) < 1000000000 := by rw [hw.1, vl_dg]; exact (Nat.div_lt_iff_lt_mul hpos).2 hw.2.1
  have hqn : (0 : Int) ≤ ((vl ((U.drop (k - 1)).take (k - 1 + (dg (n * s.toNat)).length + 1 - (k - 1))) / vl (dg (n * s.toNat)) : Nat) : Int) := Int.natCast_nonneg _
  have f65 := hs_s53.chg c63 (by omega)
  refine sp rfl (px_index1 (j := (k - 1)) rfl rfl (by omega) Tryz.underlying23 Tryz.sizeOf3 f65.sv (by omega)) ?_
  refine sx_storeO rfl rfl f65 (by first | omega | (simp only [List.length_map]; omega)) Tryz.sizeOf3 rfl (fun w66 sw66 fw66 cw66 => ?_)
  have zw66 := cw66.size
  have nw66 := fw66.set
  refine wl_nil ?_
  refine q_bn (q_n (k61 _ _ ?_))
  refine sx_sub (Sub.c 8 rfl (.c 9 rfl (.c 10 rfl (.c 11 rfl (.c 12 rfl (.c 13 rfl .nil)))))) ?_
  refine sx_region ?_
  refine mv rfl rfl (sp rfl (px_sub rfl rfl (by omega)) ?_)
  refine av rfl rfl (wl_nil ?_)
  have q67 := Chg.step (l := ws22.heap.size) (h := ws53.heap.size) cwl56 c63 (by omega)
  have q68 := Chg.step (l := ws22.heap.size) (h := ws53.heap.size) q67 cw66 (by omega)
  have f69 := f64.chg cw66 (by omega)
  have f71 := (hs_v32.chg c63 (by omega)).chg cw66 (by omega)
  exact fun a ha => ⟨_, by omega, (k - 1), (U.take (k - 1) ++ os63 ++ U.drop (k - 1 + (dg (n * s.toNat)).length + 1)), ((qs).set (k - 1) ((vl ((U.drop (k - 1)).take ((k - 1 + (dg (n * s.toNat)).length + 1) - (k - 1))) / vl (dg (n * s.toNat)) : Nat) : Int)), ha.sub (Sub.c 8 rfl (.c 9 rfl (.c 10 rfl (.c 11 rfl (.c 12 rfl (.c 13 (look_int (t := 13) rfl (by first | omega | (simp only [List.length_replicate]; omega) | simp)) .nil)))))), q68, (f69.mono (by omega) (by omega)), (nw66.mono (by omega) (by omega)), (f71.mono (by omega) (by omega)), rfl, by omega, by rw [List.length_set]; exact hql, by simp only [List.length_append, List.length_take, List.length_drop]; omega, ((hUm.take _).append hdl).append (Lm.drop hUm _), hQm.set _ (by omega) (by omega), by rw [hp.1]; exact Nat.mod_lt _ hpos, by rw [hw.1, vl_dg]; exact hp.2⟩
 refine sx_exit ?_
 refine q_e (q_e (q_bx (q_n (k54 _ _ ?_))))
 refine sx_seq fun K72 k72 => ?_
 have ek : k = 0 := by omega
 subst ek
 rw [List.drop_zero] at hV htp
 have hse := scaled_end (s := s.toNat) (by omega) hn0 hV htp
 have e1 : vl U / s.toNat = m % n := by rw [hse.2, Nat.mul_div_cancel _ (by omega)]
 refine sx_region ?_
 refine mv rfl rfl (sx_call rfl rfl Tryz.call69 (c_trim hs_su (by assumption) (by first | omega | (simp only [List.length_append, List.length_set, List.length_replicate, List.length_cons, List.length_nil] at *; omega))) (fun v73 w73 p73 => ?_))
 obtain ⟨s73, rfl, os_73, c73⟩ := p73
 have zw73 := c73.size
 refine mv rfl rfl (sx_call rfl rfl Tryz.call76 (c_natSmall os_73.sv (Nat.le_trans (dg_len_le (vl_lt hUm)) (by omega)) (by omega)) (fun v74 w74 p74 => ?_))
 obtain ⟨s74, rfl, os_74, c74⟩ := p74
 have zw74 := c74.size
 refine mv rfl rfl (sp rfl (px_ex2 rfl rfl) ?_)
 refine sp rfl (px_ex2 rfl rfl) ?_
 refine av rfl rfl (av rfl rfl (wl_nil (q_n (k72 _ _ ?_))))
 refine sx_sub (Sub.c 12 rfl (.c 14 rfl .nil)) ?_
 refine sx_seq fun K75 k75 => sx_region ?_
 refine mv rfl rfl ?_
 have f77 := (hs_s53.ext c73).ext c74
 refine sx_call rfl rfl Tryz.call69 (c_trim f77 (by assumption) (by first | omega | (simp only [List.length_append, List.length_set, List.length_replicate, List.length_cons, List.length_nil] at *; omega))) (fun v78 w78 p78 => ?_)
 obtain ⟨s78, rfl, os_78, c78⟩ := p78
 have zw78 := c78.size
 refine mv rfl rfl (av rfl rfl (av rfl rfl (wl_nil (q_n (k75 _ _ ?_)))))
 refine sx_retc ?_
 refine sx_ret2 Tryz.results40 rfl rfl ?_
 have r1 := os_78
 have f79 := os_74.ext c78
 have r2 := f79
 rw [hse.1] at r1
 rw [e1] at r2
 have q80 := Chg.step (l := 0) (h := 0) (Chg.zero (l := 0) (h := 0) ((((c4.t cs22).t c25).t cs28).t c32)) cwl35 (by omega)
 have q81 := Chg.step (l := 0) (h := 0) q80 cs53 (by omega)
 have q82 := Chg.step (l := 0) (h := 0) q81 cwl56 (by omega)
 have q83 := Chg.step (l := 0) (h := 0) q82 ((c73.t c74).t c78) (by omega)
 exact ⟨_, _, rfl, r1.mono (by omega) (by omega), r2.mono (by omega) (by omega), q83⟩

theorem c_iDecAt {w : World} {n1 : Bool} {v1 : Value} {lv1 uv1 : Nat} {z1 : List Int} {p1 : Int} {q : Int} (hv1 : Sl w lv1 uv1 v1 (z1)) (h63 : z1.length ≤ 4611686018427387904) :
  Ret Tryz.prog 9 [.agg #[.bool n1, v1, .int .i64 p1], .int .i64 q] w fun v w' => ∃ s, v = .tuple #[.agg #[.bool ((dAt n1 z1 p1 q).1), s, .int .i64 ((dAt n1 z1 p1 q).2.2.1)], .bool ((dAt n1 z1 p1 q).2.2.2)] ∧ OwnI w' w.heap.size w'.heap.size s intT ((dAt n1 z1 p1 q).2.1) ∧ ((dAt n1 z1 p1 q).2.1.length ≤ 6) ∧ Chg 0 0 w w' := by
 have hv10 := hv1.fit
 refine sx_enter Tryz.func9 rfl Tryz.ntmps9 (nbl rfl) ?_
 refine sx_seq fun K1 k1 => sx_region ?_
 refine sx_box [.bool n1, v1, .int .i64 p1] rfl rfl rfl (fun b2 w3 eb2 sb2 fb2 cb2 => ?_)
 have zw3 := cb2.size
 refine sx_alloc [.bool false, (.slice none 0 0), .int .i64 0] rfl Tryz.zeroValue27 rfl (fun b4 w5 eb4 sb4 fb4 cb4 => ?_)
 have zw5 := cb4.size
 refine av rfl rfl (wl_nil (q_n (k1 _ _ ?_)))
 refine sx_seq fun K6 k6 => ?_
 refine sx_seq fun K7 k7 => sx_region ?_
 have f8 := fb2.ext cb4
 refine sp rfl (px_load rfl (f8.loadA (vs := [.bool n1, v1, .int .i64 p1]) (look_lit rfl) Tryz.isAgg27 Tryz.sizeOf27)) ?_
 have f9 := hv10.ext cb2
 have f10 := f9.ext cb4
 refine sx_call rfl rfl Tryz.call34 (c_iDecOk f10 (by omega)) (fun v11 w11 p11 => ?_)
 obtain ⟨rfl, c11⟩ := p11
 have zw11 := c11.size
 refine sp rfl (px_notP rfl) ?_
 refine mv rfl rfl ?_
 refine sx_tmpP (t := 11) rfl (fun h87 => ?_) (fun h87 => ?_)
 ·
  refine sx_guardF rfl rfl rfl rfl rfl rfl ?_
  refine sx_guardF rfl rfl rfl rfl rfl rfl ?_
  refine sx_guardF rfl rfl rfl rfl rfl rfl ?_
  refine sp rfl (px_pick rfl rfl) ?_
  refine wl_nil (q_n (k7 _ _ ?_))
  refine sx_condT rfl ?_
  refine sx_seq fun K12 k12 => sx_region ?_
  refine sp rfl (px_build rfl (xbld27x  _)) ?_
  have f14 := fb4.ext c11
  refine sx_store (vs := [.bool false, (.slice none 0 0), .int .i64 0]) rfl rfl f14 rfl Tryz.sizeOf27 (nbl rfl) (o3 rfl rfl rfl) (fun w13 sw13 fw13 cw13 => ?_)
  have zw13 := cw13.size
  have gw13 : Blk w13 b4 [.bool false, (.slice none 0 0), .int .i64 0] 27 := fw13
  refine av rfl rfl (wl_nil (q_n (k12 _ _ ?_)))
  refine sx_retc ?_
  refine q_r (sx_ret2 Tryz.results9 ⟨_, rfl, gw13.loadA (vs := [.bool false, (.slice none 0 0), .int .i64 0]) (look_lit rfl) Tryz.isAgg27 Tryz.sizeOf27⟩ rfl ?_)
  rw [dAt_no (by grind)]
  have q15 := Chg.step (l := 0) (h := 0) (Chg.zero (l := 0) (h := 0) ((cb2.t cb4).t c11)) cw13 (by omega)
  exact ⟨_, rfl, Own.nil _ _ _ _ _, by simp [noD], q15⟩
 refine sx_guardT rfl rfl rfl ?_
 refine mv rfl rfl ?_
 refine sx_guardT rfl rfl rfl ?_
 refine sx_call rfl rfl Tryz.call37 (c_isScale) (fun v16 w16 p16 => ?_)
 obtain ⟨rfl, c16⟩ := p16
 have zw16 := c16.size
 refine sx_guardT rfl rfl rfl ?_
 refine sp rfl (px_notP rfl) ?_
 refine sp rfl (px_pick rfl rfl) ?_
 refine wl_nil (q_n (k7 _ _ ?_))
 refine sx_condP rfl (fun h87x1 => ?_) (fun h87x1 => ?_)
 ·
  refine sx_seq fun K17 k17 => sx_region ?_
  refine sp rfl (px_build rfl (xbld27x  _)) ?_
  have f20 := (fb4.ext c11).ext c16
  refine sx_store (vs := [.bool false, (.slice none 0 0), .int .i64 0]) rfl rfl f20 rfl Tryz.sizeOf27 (nbl rfl) (o3 rfl rfl rfl) (fun w18 sw18 fw18 cw18 => ?_)
  have zw18 := cw18.size
  have gw18 : Blk w18 b4 [.bool false, (.slice none 0 0), .int .i64 0] 27 := fw18
  refine av rfl rfl (wl_nil (q_n (k17 _ _ ?_)))
  refine sx_retc ?_
  refine q_r (sx_ret2 Tryz.results9 ⟨_, rfl, gw18.loadA (vs := [.bool false, (.slice none 0 0), .int .i64 0]) (look_lit rfl) Tryz.isAgg27 Tryz.sizeOf27⟩ rfl ?_)
  rw [dAt_no (by grind)]
  have q21 := Chg.step (l := 0) (h := 0) (Chg.zero (l := 0) (h := 0) (((cb2.t cb4).t c11).t c16)) cw18 (by omega)
  exact ⟨_, rfl, Own.nil _ _ _ _ _, by simp [noD], q21⟩
 have hD := Decidable.not_not.1 h87
 have hQ := Decidable.not_not.1 h87x1
 obtain ⟨x1, rfl, rfl, hx1⟩ := hD.int
 have lt9 := ten_len' (k := p1 - q) (by omega)
 have lq9 := len_div x1.natAbs (10 ^ (p1 - q).toNat)
 have lm9 := len_mod (m := x1.natAbs) (n := 10 ^ (p1 - q).toNat) (Nat.pow_pos (by decide))
 have lu9 := len_ten (k := q - p1) (by omega)
 have lv9 := len_mulI x1 (tenI (q - p1))
 refine sx_skip ?_
 refine q_n (k6 _ _ ?_)
 refine sx_seq fun K22 k22 => ?_
 refine sx_seq fun K23 k23 => sx_region ?_
 refine mv rfl rfl (sp rfl (px_field rfl xfld27x1) ?_)
 have f25 := (f8.ext c11).ext c16
 refine sp rfl (px_load rfl (f25.load1 rfl Tryz.isAgg3)) ?_
 refine sp rfl (px_ge rfl rfl) ?_
 refine wl_nil (q_n (k23 _ _ ?_))
 refine sx_sub (Sub.c 1 rfl (.c 2 rfl (.c 4 rfl (.c 5 rfl (.c 20 rfl .nil))))) ?_
 refine sx_condP rfl (fun h90 => ?_) (fun h90 => ?_)
 ·
  refine sx_seq fun K26 k26 => ?_
  refine dx_region (fun w' => Chg b4 (b4 + 1) w16 w') (by kernel_rfl) (Chg.zero (Chg.drew _)) ?_
  have d29 := Chg.drew w16
  have s29 : Chg b4 (b4 + 1) w16 (World.drew w16) := Chg.zero (Chg.drew _)
  have y29 : (World.drew w16).heap.size = w16.heap.size := rfl
  generalize World.drew w16 = w29 at *
  have zw29 := d29.size
  refine dt 0 rfl rfl rfl rfl s29 (fun _ hS => px_move rfl) ?_
  refine dt 2 rfl rfl rfl rfl s29 (fun _ hS => px_load rfl ((f25.chg hS (by omega)).loadA (vs := [.bool (ng x1), v1, .int .i64 p1]) (look_lit rfl) Tryz.isAgg27 Tryz.sizeOf27)) ?_
  refine dt 4 rfl rfl rfl rfl s29 (fun _ hS => px_move rfl) ?_
  refine dx_eff 1 rfl (by kernel_rfl) ?_
  refine sx_call rfl rfl Tryz.call39 (c_scaled) (fun v30 w30 p30 => ?_)
  obtain ⟨b30, rfl, xb_30, hb30, c30⟩ := p30
  have zw30 := c30.size
  have s31 : Chg b4 (b4 + 1) w16 w30 := (Chg.zero (l := b4) (h := (b4 + 1)) (d29.t c30))
  refine wl_nil ?_
  refine dx_next s31 ?_
  refine dx_eff 3 rfl (by kernel_rfl) ?_
  have f33 := (((f10.ext c11).ext c16).ext d29).ext c30
  refine sx_callV rfl rfl rfl Tryz.call73 (c_scaled1 f33 xb_30 (by omega) (by omega)) (fun v34 w34 p34 => ?_)
  obtain ⟨s34, rfl, os_34, c34⟩ := p34
  have zw34 := c34.size
  have s35 : Chg b4 (b4 + 1) w16 w34 := (Chg.zero (l := b4) (h := (b4 + 1)) ((d29.t c30).t c34))
  refine wl_nil ?_
  refine dx_next s35 ?_
  refine dx_eff 5 rfl (by kernel_rfl) ?_
  refine sx_call rfl rfl Tryz.call38 (c_decOf os_34 (by first | omega | (rw [sgI_abs]; omega)) (by omega)) (fun v36 w36 p36 => ?_)
  obtain ⟨s36, rfl, os_36, c36⟩ := p36
  have zw36 := c36.size
  have s37 : Chg b4 (b4 + 1) w16 w36 := (Chg.zero (l := b4) (h := (b4 + 1)) (((d29.t c30).t c34).t c36))
  refine wl_nil ?_
  refine dx_next s37 ?_
  refine dt 6 rfl rfl rfl rfl s37 (fun _ hS => px_ex2 rfl rfl) ?_
  refine dt 7 rfl rfl rfl rfl s37 (fun _ hS => px_ex2 rfl rfl) ?_
  refine dx_eff 8 rfl (by kernel_rfl) ?_
  have f44 := (((((fb4.ext c11).ext c16).ext d29).ext c30).ext c34).ext c36
  refine sx_store (vs := [.bool ((decR (x1 * tenI (q - p1)) q).1), s36, .int .i64 ((decR (x1 * tenI (q - p1)) q).2.2.1)]) rfl rfl f44 rfl Tryz.sizeOf27 (nbl rfl) (one_cons rfl (one_cons os_36.one (o1 rfl))) (fun w38 sw38 fw38 cw38 => ?_)
  have zw38 := cw38.size
  have gw38 : Blk w38 b4 [.bool ((decR (x1 * tenI (q - p1)) q).1), s36, .int .i64 ((decR (x1 * tenI (q - p1)) q).2.2.1)] 27 := fw38
  have q46 := Chg.step (l := b4) (h := (b4 + 1)) (Chg.zero (l := b4) (h := (b4 + 1)) (((d29.t c30).t c34).t c36)) cw38 (by omega)
  have s45 : Chg b4 (b4 + 1) w16 w38 := q46
  refine wl_nil ?_
  refine dx_next s45 ?_
  refine dt 9 rfl rfl rfl rfl s45 (fun _ hS => px_assign rfl) ?_
  refine dx_done (by kernel_rfl) ?_
  refine q_n (k26 _ _ ?_)
  refine sx_retc ?_
  refine q_r (sx_ret2 Tryz.results9 ⟨_, rfl, gw38.loadA (vs := [.bool ((decR (x1 * tenI (q - p1)) q).1), s36, .int .i64 ((decR (x1 * tenI (q - p1)) q).2.2.1)]) (look_lit rfl) Tryz.isAgg27 Tryz.sizeOf27⟩ rfl ?_)
  have hrl := dAt_len (n := ng x1) (z := dg x1.natAbs) (p := p1) (q := q)
  rw [dAt_up hD hQ (by omega)] at hrl ⊢
  have q47 := Chg.step (l := 0) (h := 0) (Chg.zero (l := 0) (h := 0) (((((((cb2.t cb4).t c11).t c16).t d29).t c30).t c34).t c36)) cw38 (by omega)
  have f48 := os_36.chg cw38 (by omega)
  exact ⟨_, rfl, (Own.mono f48 (by omega) (by omega)), hrl, q47⟩
 refine sx_skip ?_
 refine q_n (k22 _ _ ?_)
 refine sx_seq fun K49 k49 => ?_
 have f51 := (fb4.ext c11).ext c16
 refine dx_region (fun w' => Chg 0 0 w16 w') (by kernel_rfl) (Chg.zero (Chg.drew _)) ?_
 have d54 := Chg.drew w16
 have s54 : Chg 0 0 w16 (World.drew w16) := Chg.zero (Chg.drew _)
 have y54 : (World.drew w16).heap.size = w16.heap.size := rfl
 generalize World.drew w16 = w54 at *
 have zw54 := d54.size
 refine dt 0 rfl rfl rfl rfl s54 (fun _ hS => px_field rfl xfld27x0) ?_
 refine dt 1 rfl rfl rfl rfl s54 (fun _ hS => px_field rfl xfld25x1) ?_
 refine dt 2 rfl rfl rfl rfl s54 (fun _ hS => px_load rfl ((f25.chg hS (by omega)).load1 rfl Tryz.isAgg23)) ?_
 refine dt 3 rfl rfl rfl rfl s54 (fun _ hS => px_field rfl xfld27x1) ?_
 refine dt 4 rfl rfl rfl rfl s54 (fun _ hS => px_load rfl ((f25.chg hS (by omega)).load1 rfl Tryz.isAgg3)) ?_
 refine dt 5 rfl rfl rfl rfl s54 (fun _ hS => px_move rfl) ?_
 refine dt 6 rfl rfl rfl rfl s54 (fun _ hS => px_sub rfl rfl (by omega)) ?_
 refine dx_eff 7 rfl (by kernel_rfl) ?_
 refine sx_call rfl rfl Tryz.call41 (c_natTen (by omega)) (fun v55 w55 p55 => ?_)
 obtain ⟨s55, rfl, os_55, c55⟩ := p55
 have zw55 := c55.size
 have s56 : Chg 0 0 w16 w55 := (d54.t c55)
 refine wl_nil ?_
 refine dx_next s56 ?_
 refine dx_eff 8 rfl (by kernel_rfl) ?_
 have f58 := (((f10.ext c11).ext c16).ext d54).ext c55
 refine sx_call rfl rfl Tryz.call40 (c_natDiv f58 os_55.sv (by omega) (by omega) (Nat.pow_pos (by decide))) (fun v59 w59 p59 => ?_)
 obtain ⟨s59, t59, rfl, os_59, ot_59, c59⟩ := p59
 have zw59 := c59.size
 have s60 : Chg 0 0 w16 w59 := ((d54.t c55).t c59)
 refine wl_nil ?_
 refine dx_next s60 ?_
 refine dt 9 rfl rfl rfl rfl s60 (fun _ hS => px_move rfl) ?_
 refine dt 10 rfl rfl rfl rfl s60 (fun _ hS => px_ex2 rfl rfl) ?_
 refine dt 11 rfl rfl rfl rfl s60 (fun _ hS => px_ex2 rfl rfl) ?_
 refine dt 12 rfl rfl rfl rfl s60 (fun _ hS => px_assign rfl) ?_
 refine dt 13 rfl rfl rfl rfl s60 (fun _ hS => px_assign rfl) ?_
 refine dx_done (by kernel_rfl) ?_
 refine q_n (k49 _ _ ?_)
 refine sx_sub (Sub.c 1 rfl (.c 2 rfl (.c 4 rfl (.c 5 rfl (.c 6 rfl (.c 7 rfl .nil)))))) ?_
 refine sx_seq fun K61 k61 => ?_
 refine sx_seq fun K62 k62 => sx_region ?_
 refine mv rfl rfl (sp rfl (px_len rfl Tryz.underlying23 ot_59.sv) ?_)
 refine sp rfl (px_gt rfl rfl) ?_
 refine wl_nil (q_n (k62 _ _ ?_))
 refine sx_condP rfl (fun h94 => ?_) (fun h94 => ?_)
 ·
  have hr9 : ¬ x1.natAbs % 10 ^ (p1 - q).toNat = 0 := fun e => by rw [e, dg_zero] at h94; simp at h94
  refine sx_seq fun K63 k63 => sx_region ?_
  refine sp rfl (px_build rfl (xbld27x  _)) ?_
  have f67 := ((f51.ext d54).ext c55).ext c59
  refine sx_store (vs := [.bool false, (.slice none 0 0), .int .i64 0]) rfl rfl f67 rfl Tryz.sizeOf27 (nbl rfl) (o3 rfl rfl rfl) (fun w64 sw64 fw64 cw64 => ?_)
  have zw64 := cw64.size
  have gw64 : Blk w64 b4 [.bool false, (.slice none 0 0), .int .i64 0] 27 := fw64
  refine av rfl rfl (wl_nil (q_n (k63 _ _ ?_)))
  refine sx_retc ?_
  refine q_r (sx_ret2 Tryz.results9 ⟨_, rfl, gw64.loadA (vs := [.bool false, (.slice none 0 0), .int .i64 0]) (look_lit rfl) Tryz.isAgg27 Tryz.sizeOf27⟩ rfl ?_)
  rw [dAt_rest hD hQ (by omega) hr9]
  have q68 := Chg.step (l := 0) (h := 0) (Chg.zero (l := 0) (h := 0) ((((((cb2.t cb4).t c11).t c16).t d54).t c55).t c59)) cw64 (by omega)
  exact ⟨_, rfl, Own.nil _ _ _ _ _, by simp [noD], q68⟩
 have hr9 : x1.natAbs % 10 ^ (p1 - q).toNat = 0 := len_zero.1 (by omega)
 refine sx_skip ?_
 refine q_n (k61 _ _ ?_)
 refine sx_seq fun K69 k69 => sx_region ?_
 refine sp rfl (px_field rfl xfld27x0) ?_
 refine sp rfl (px_field rfl xfld25x0) ?_
 have f72 := ((f25.ext d54).ext c55).ext c59
 refine sp rfl (px_load rfl (f72.load1 rfl Tryz.isAgg4)) ?_
 refine mv rfl rfl (sx_call rfl rfl Tryz.call33 (c_signed os_59.sv (by omega)) (fun v73 w73 p73 => ?_))
 obtain ⟨rfl, c73⟩ := p73
 have zw73 := c73.size
 refine sx_let (t := 49) rfl (show Value.agg #[.bool (nz (ng x1) (dg (x1.natAbs / (10 ^ ((p1 - q)).toNat)))), s59] = Value.agg #[.bool (ng (sgI (ng x1) (x1.natAbs / (10 ^ ((p1 - q)).toNat)))), s59] from by rw [ng_sgI]) ?_
 have f74 := os_59.ext c73
 have f75 := f74
 rw [show dg (x1.natAbs / (10 ^ ((p1 - q)).toNat)) = dg (sgI (ng x1) (x1.natAbs / (10 ^ ((p1 - q)).toNat))).natAbs by rw [sgI_abs]] at f75
 refine mv rfl rfl (sx_call rfl rfl Tryz.call38 (c_decOf f75 (by first | omega | (rw [sgI_abs]; omega)) (by omega)) (fun v76 w76 p76 => ?_))
 obtain ⟨s76, rfl, os_76, c76⟩ := p76
 have zw76 := c76.size
 refine sp rfl (px_ex2 rfl rfl) ?_
 refine sp rfl (px_ex2 rfl rfl) ?_
 have f82 := ((((f51.ext d54).ext c55).ext c59).ext c73).ext c76
 refine sx_store (vs := [.bool ((decR (sgI (ng x1) (x1.natAbs / (10 ^ ((p1 - q)).toNat))) q).1), s76, .int .i64 ((decR (sgI (ng x1) (x1.natAbs / (10 ^ ((p1 - q)).toNat))) q).2.2.1)]) rfl rfl f82 rfl Tryz.sizeOf27 (nbl rfl) (one_cons rfl (one_cons os_76.one (o1 rfl))) (fun w77 sw77 fw77 cw77 => ?_)
 have zw77 := cw77.size
 have gw77 : Blk w77 b4 [.bool ((decR (sgI (ng x1) (x1.natAbs / (10 ^ ((p1 - q)).toNat))) q).1), s76, .int .i64 ((decR (sgI (ng x1) (x1.natAbs / (10 ^ ((p1 - q)).toNat))) q).2.2.1)] 27 := fw77
 refine av rfl rfl (wl_nil (q_n (k69 _ _ ?_)))
 refine sx_sub (Sub.c 4 rfl (.c 5 rfl .nil)) ?_
 refine sx_retc ?_
 refine sx_ret2 Tryz.results9 ⟨_, rfl, gw77.loadA (vs := [.bool ((decR (sgI (ng x1) (x1.natAbs / (10 ^ ((p1 - q)).toNat))) q).1), s76, .int .i64 ((decR (sgI (ng x1) (x1.natAbs / (10 ^ ((p1 - q)).toNat))) q).2.2.1)]) (look_lit rfl) Tryz.isAgg27 Tryz.sizeOf27⟩ rfl ?_
 have hrl := dAt_len (n := ng x1) (z := dg x1.natAbs) (p := p1) (q := q)
 rw [dAt_dn hD hQ (by omega) hr9] at hrl ⊢
 have q83 := Chg.step (l := 0) (h := 0) (Chg.zero (l := 0) (h := 0) ((((((((cb2.t cb4).t c11).t c16).t d54).t c55).t c59).t c73).t c76)) cw77 (by omega)
 have f84 := os_76.chg cw77 (by omega)
 exact ⟨_, rfl, (Own.mono f84 (by omega) (by omega)), hrl, q83⟩

theorem c_iDecAtD {w : World} {va : Value} {lva uva : Nat} {x : Int} {p : Int} {r : Int} (hva : Sl w lva uva va (dg x.natAbs)) (hD : DOk (ng x) (dg x.natAbs) p) (hr : p ≤ r ∧ r ≤ 30) (hA : DOk (ng (x * tenI (r - p))) (dg (x * tenI (r - p)).natAbs) (r)) :
  Ret Tryz.prog 9 [.agg #[.bool (ng x), va, .int .i64 p], .int .i64 r] w fun v w' => ∃ s, v = .tuple #[.agg #[.bool (ng (x * tenI (r - p))), s, .int .i64 (r)], .bool (true)] ∧ OwnI w' w.heap.size w'.heap.size s intT (dg (x * tenI (r - p)).natAbs) ∧ Chg 0 0 w w' := by
 have hl := DOk_iff.1 hD
 have h := c_iDecAt (n1 := ng x) (p1 := p) (q := r) hva (by omega); rw [dAt_up hD (by omega) hr.1, decR_ok hA] at h
 exact Calls.mono h fun ev w' ⟨v, he, s, e1, o1, _, hc⟩ => ⟨v, he, s, e1, o1, hc⟩

theorem c_iDecLow {w : World} {n1 : Bool} {v1 : Value} {lv1 uv1 : Nat} {z1 : List Int} {p1 : Int} (hv1 : Sl w lv1 uv1 v1 (z1)) (h63 : z1.length ≤ 4611686018427387904) :
  Ret Tryz.prog 8 [.agg #[.bool n1, v1, .int .i64 p1]] w fun v w' => ∃ s, v = .agg #[.bool ((dLow n1 z1 p1).1), s, .int .i64 ((dLow n1 z1 p1).2.2.1)] ∧ OwnI w' w.heap.size w'.heap.size s intT ((dLow n1 z1 p1).2.1) ∧ ((dLow n1 z1 p1).2.1.length ≤ 6) ∧ Chg 0 0 w w' := by
 have hv10 := hv1.fit
 refine sx_enter Tryz.func8 rfl Tryz.ntmps8 (nbl rfl) ?_
 refine sx_seq fun K1 k1 => sx_region ?_
 refine sx_box [.bool n1, v1, .int .i64 p1] rfl rfl rfl (fun b2 w3 eb2 sb2 fb2 cb2 => ?_)
 have zw3 := cb2.size
 refine sx_alloc [.bool false, (.slice none 0 0), .int .i64 0] rfl Tryz.zeroValue27 rfl (fun b4 w5 eb4 sb4 fb4 cb4 => ?_)
 have zw5 := cb4.size
 refine wl_nil (q_n (k1 _ _ ?_))
 refine sx_seq fun K6 k6 => ?_
 refine sx_seq fun K7 k7 => sx_region ?_
 refine av rfl rfl (wl_nil (q_n (k7 _ _ ?_)))
 refine sx_block ?_
 have f9 := fb2.ext cb4
 refine sx_loop (fun mm aa w' => ∃ (k : Nat), Agr 25 [(1, .pointer (some ⟨b2, 0, none⟩)), (2, .pointer (some ⟨b4, 0, none⟩)), (3, .int .i64 ↑k)] aa ∧ Chg 0 0 w5 w' ∧ Blk w' b2 [.bool n1, v1, .int .i64 p1] 27 ∧ Blk w' b4 [.bool false, (.slice none 0 0), .int .i64 0] 27 ∧ (mm = 31 - k) ∧ (k ≤ 31) ∧ (∀ i : Nat, i < k → (dAt n1 z1 p1 (i : Nat)).2.2.2 = false)) (_) (fun a ha => ⟨0, ha.sub (Sub.c 1 rfl (.c 2 rfl (.c 3 (look_int (t := 3) rfl (by first | omega | simp)) .nil))), Chg.refl _ _ _, f9, fb4, rfl, by omega, fun i hi => by omega⟩) ?_
 rintro mm aa wl8 ⟨k, hAwl8, cwl8, hb_b2, hb_b4, hm, hk, hn⟩
 refine (show cw Tryz.prog 25 _ _ _ wl8 from ?_) aa hAwl8
 clear hAwl8
 have zwl8 := cwl8.size
 refine sx_seq fun K10 k10 => ?_
 refine sx_seq fun K11 k11 => sx_region ?_
 refine mv rfl rfl (sp rfl (px_field rfl xfld27x1) ?_)
 refine sp rfl (px_load rfl (hb_b2.load1 rfl Tryz.isAgg3)) ?_
 refine sp rfl (px_le rfl rfl) ?_
 refine mv rfl rfl ?_
 refine sx_tmpP (t := 10) rfl (fun h102 => ?_) (fun h102 => ?_)
 ·
  refine sx_guardT rfl rfl rfl ?_
  refine mv rfl rfl ?_
  refine sx_guardT rfl rfl rfl ?_
  refine sp rfl (px_le rfl rfl) ?_
  refine sp rfl (px_pick rfl rfl) ?_
  refine wl_nil (q_n (k11 _ _ ?_))
  refine sx_condP rfl (fun h102x1 => ?_) (fun h102x1 => ?_)
  ·
   refine sx_skip ?_
   refine q_n (k10 _ _ ?_)
   refine sx_seq fun K12 k12 => ?_
   refine sx_block ?_
   refine sx_seq fun K13 k13 => sx_region ?_
   refine sp rfl (px_load rfl (hb_b2.loadA (vs := [.bool n1, v1, .int .i64 p1]) (look_lit rfl) Tryz.isAgg27 Tryz.sizeOf27)) ?_
   refine mv rfl rfl ?_
   have f14 := hv10.ext cb2
   have f15 := f14.ext cb4
   have f16 := f15.ext cwl8
   refine sx_call rfl rfl Tryz.call9 (c_iDecAt f16 (by omega)) (fun v17 w17 p17 => ?_)
   obtain ⟨s17, rfl, os_17, hl17, c17⟩ := p17
   have zw17 := c17.size
   refine mv rfl rfl (sp rfl (px_ex2 rfl rfl) ?_)
   refine sp rfl (px_ex2 rfl rfl) ?_
   refine sx_alloc [.bool false, (.slice none 0 0), .int .i64 0] rfl Tryz.zeroValue27 rfl (fun b18 w19 eb18 sb18 fb18 cb18 => ?_)
   have zw19 := cb18.size
   have f21 := os_17.ext cb18
   refine sx_store (vs := [.bool ((dAt n1 z1 p1 ↑k).1), s17, .int .i64 ((dAt n1 z1 p1 ↑k).2.2.1)]) rfl rfl fb18 rfl Tryz.sizeOf27 (nbl rfl) (one_cons rfl (one_cons f21.one (o1 rfl))) (fun w20 sw20 fw20 cw20 => ?_)
   have zw20 := cw20.size
   have gw20 : Blk w20 b18 [.bool ((dAt n1 z1 p1 ↑k).1), s17, .int .i64 ((dAt n1 z1 p1 ↑k).2.2.1)] 27 := fw20
   refine av rfl rfl (wl_nil (q_n (k13 _ _ ?_)))
   refine sx_sub (Sub.c 1 rfl (.c 2 rfl (.c 3 rfl (.c 4 rfl (.c 5 rfl .nil))))) ?_
   refine sx_seq fun K22 k22 => sx_region ?_
   refine mv rfl rfl (wl_nil (q_n (k22 _ _ ?_)))
   refine sx_condB rfl (fun h103 => ?_) (fun h103 => ?_)
   ·
    refine sx_seq fun K23 k23 => sx_region ?_
    refine sp rfl (px_load rfl (gw20.loadA (vs := [.bool ((dAt n1 z1 p1 ↑k).1), s17, .int .i64 ((dAt n1 z1 p1 ↑k).2.2.1)]) (look_lit rfl) Tryz.isAgg27 Tryz.sizeOf27)) ?_
    have f26 := (hb_b4.ext c17).ext cb18
    have f27 := f26.chg cw20 (by omega)
    have f28 := f21.chg cw20 (by omega)
    refine sx_store (vs := [.bool ((dAt n1 z1 p1 ↑k).1), s17, .int .i64 ((dAt n1 z1 p1 ↑k).2.2.1)]) rfl rfl f27 rfl Tryz.sizeOf27 (nbl rfl) (one_cons rfl (one_cons f28.one (o1 rfl))) (fun w24 sw24 fw24 cw24 => ?_)
    have zw24 := cw24.size
    have gw24 : Blk w24 b4 [.bool ((dAt n1 z1 p1 ↑k).1), s17, .int .i64 ((dAt n1 z1 p1 ↑k).2.2.1)] 27 := fw24
    refine wl_nil (q_n (k23 _ _ ?_))
    refine sx_retc ?_
    refine q_br (q_r (q_r (q_br (q_r (sx_ret1 Tryz.results8 ⟨_, rfl, gw24.loadA (vs := [.bool ((dAt n1 z1 p1 ↑k).1), s17, .int .i64 ((dAt n1 z1 p1 ↑k).2.2.1)]) (look_lit rfl) Tryz.isAgg27 Tryz.sizeOf27⟩ ?_)))))
    rw [dLow_some (k := k) (by omega) hn h103]
    have q29 := Chg.step (l := 0) (h := 0) (Chg.zero (l := 0) (h := 0) ((((cb2.t cb4).t cwl8).t c17).t cb18)) cw20 (by omega)
    have q30 := Chg.step (l := 0) (h := 0) q29 cw24 (by omega)
    have f31 := f28.chg cw24 (by omega)
    exact ⟨_, rfl, (Own.mono f31 (by omega) (by omega)), dAt_len, q30⟩
   refine sx_skip ?_
   refine q_bn (q_n (k12 _ _ ?_))
   refine sx_region ?_
   refine mv rfl rfl (sp rfl (px_add rfl rfl (by omega)) ?_)
   refine av rfl rfl (wl_nil ?_)
   have q32 := Chg.step (l := 0) (h := 0) (Chg.zero (l := 0) (h := 0) ((cwl8.t c17).t cb18)) cw20 (by omega)
   have f34 := (hb_b2.ext c17).ext cb18
   have f35 := f34.chg cw20 (by omega)
   have f37 := (hb_b4.ext c17).ext cb18
   have f38 := f37.chg cw20 (by omega)
   exact fun a ha => ⟨_, by omega, (k + 1), ha.sub (Sub.c 1 rfl (.c 2 rfl (.c 3 (look_int (t := 3) rfl (by first | omega | simp)) .nil))), q32, f35, f38, rfl, by omega, low_next hn h103⟩
  refine sx_exit ?_
  refine q_e (q_e (q_bx (q_n (k6 _ _ ?_))))
  refine sx_seq fun K39 k39 => sx_region ?_
  refine sp rfl (px_build rfl (xbld27x  _)) ?_
  refine sx_store (vs := [.bool false, (.slice none 0 0), .int .i64 0]) rfl rfl hb_b4 rfl Tryz.sizeOf27 (nbl rfl) (o3 rfl rfl rfl) (fun w40 sw40 fw40 cw40 => ?_)
  have zw40 := cw40.size
  have gw40 : Blk w40 b4 [.bool false, (.slice none 0 0), .int .i64 0] 27 := fw40
  refine wl_nil (q_n (k39 _ _ ?_))
  refine sx_retc ?_
  refine sx_ret1 Tryz.results8 ⟨_, rfl, gw40.loadA (vs := [.bool false, (.slice none 0 0), .int .i64 0]) (look_lit rfl) Tryz.isAgg27 Tryz.sizeOf27⟩ ?_
  rw [dLow_bad (k := k) hn (by omega)]
  have q41 := Chg.step (l := 0) (h := 0) (Chg.zero (l := 0) (h := 0) ((cb2.t cb4).t cwl8)) cw40 (by omega)
  exact ⟨_, rfl, Own.nil _ _ _ _ _, by simp [noD], q41⟩
 refine sx_guardF rfl rfl rfl rfl rfl rfl ?_
 refine sx_guardF rfl rfl rfl rfl rfl rfl ?_
 refine sp rfl (px_pick rfl rfl) ?_
 refine wl_nil (q_n (k11 _ _ ?_))
 refine sx_condF rfl ?_
 refine sx_exit ?_
 refine q_e (q_e (q_bx (q_n (k6 _ _ ?_))))
 refine sx_seq fun K42 k42 => sx_region ?_
 refine sp rfl (px_build rfl (xbld27x  _)) ?_
 refine sx_store (vs := [.bool false, (.slice none 0 0), .int .i64 0]) rfl rfl hb_b4 rfl Tryz.sizeOf27 (nbl rfl) (o3 rfl rfl rfl) (fun w43 sw43 fw43 cw43 => ?_)
 have zw43 := cw43.size
 have gw43 : Blk w43 b4 [.bool false, (.slice none 0 0), .int .i64 0] 27 := fw43
 refine wl_nil (q_n (k42 _ _ ?_))
 refine sx_retc ?_
 refine sx_ret1 Tryz.results8 ⟨_, rfl, gw43.loadA (vs := [.bool false, (.slice none 0 0), .int .i64 0]) (look_lit rfl) Tryz.isAgg27 Tryz.sizeOf27⟩ ?_
 rw [dLow_bad (k := k) hn (by omega)]
 have q44 := Chg.step (l := 0) (h := 0) (Chg.zero (l := 0) (h := 0) ((cb2.t cb4).t cwl8)) cw43 (by omega)
 exact ⟨_, rfl, Own.nil _ _ _ _ _, by simp [noD], q44⟩

theorem c_iDecLowD {w : World} {va : Value} {lva uva : Nat} {x : Int} {p : Int} (hva : Sl w lva uva va (dg x.natAbs)) (hD : DOk (ng x) (dg x.natAbs) p) :
  Ret Tryz.prog 8 [.agg #[.bool (ng x), va, .int .i64 p]] w fun v w' => ∃ s y q, v = .agg #[.bool (ng (y)), s, .int .i64 (q)] ∧ OwnI w' w.heap.size w'.heap.size s intT (dg (y).natAbs) ∧ (DOk (ng (y)) (dg (y).natAbs) (q)) ∧ (0 ≤ q ∧ q ≤ p) ∧ (y * tenI (p - q) = x) ∧ Chg 0 0 w w' := by
 obtain ⟨y, q, hE, hL, hq, hv⟩ := low_form hD
 have hl := (DOk_iff.1 hD).1
 have h := c_iDecLow (n1 := ng x) (p1 := p) hva (by omega); rw [hE] at h
 exact Calls.mono h fun ev w' ⟨v, he, s, e1, o1, _, hc⟩ => ⟨v, he, s, y, q, e1, o1, hL, hq, hv, hc⟩

theorem c_intNeg {w : World} {va : Value} {lva uva : Nat} {x : Int} (hva : Sl w lva uva va (dg x.natAbs)) (hbx : (dg x.natAbs).length ≤ 1000) :
  Ret Tryz.prog 46 [.agg #[.bool (ng x), va]] w fun v w' => ∃ s, v = .agg #[.bool (ng (-x)), s] ∧ OwnI w' w.heap.size w'.heap.size s intT (dg (-x).natAbs) ∧ Chg 0 0 w w' := by
 have hva0 := hva.fit
 refine sx_enter Tryz.func46 rfl Tryz.ntmps46 (nbl rfl) ?_
 refine sx_seq fun K1 k1 => sx_region ?_
 refine sx_box [.bool (ng x), va] rfl rfl rfl (fun b2 w3 eb2 sb2 fb2 cb2 => ?_)
 have zw3 := cb2.size
 refine sx_alloc [.bool false, (.slice none 0 0)] rfl Tryz.zeroValue25 rfl (fun b4 w5 eb4 sb4 fb4 cb4 => ?_)
 have zw5 := cb4.size
 refine wl_nil (q_n (k1 _ _ ?_))
 refine sx_seq fun K6 k6 => ?_
 have f7 := fb2.ext cb4
 have f8 := hva0.ext cb2
 have f9 := f8.ext cb4
 refine dx_region (fun w' => Chg b4 (b4 + 1) w5 w') (by kernel_rfl) (Chg.zero (Chg.drew _)) ?_
 have d10 := Chg.drew w5
 have s10 : Chg b4 (b4 + 1) w5 (World.drew w5) := Chg.zero (Chg.drew _)
 have y10 : (World.drew w5).heap.size = w5.heap.size := rfl
 generalize World.drew w5 = w10 at *
 have zw10 := d10.size
 refine dt 0 rfl rfl rfl rfl s10 (fun _ hS => px_field rfl xfld25x0) ?_
 refine dt 1 rfl rfl rfl rfl s10 (fun _ hS => px_load rfl ((f7.chg hS (by omega)).load1 rfl Tryz.isAgg4)) ?_
 refine dt 2 rfl rfl rfl rfl s10 (fun _ hS => px_not rfl) ?_
 refine dt 3 rfl rfl rfl rfl s10 (fun _ hS => px_field rfl xfld25x1) ?_
 refine dt 4 rfl rfl rfl rfl s10 (fun _ hS => px_load rfl ((f7.chg hS (by omega)).load1 rfl Tryz.isAgg23)) ?_
 refine dx_eff 5 rfl (by kernel_rfl) ?_
 have f11 := f9.ext d10
 refine sx_call rfl rfl Tryz.call75 (c_natCopy f11 (by omega)) (fun v12 w12 p12 => ?_)
 obtain ⟨s12, rfl, os_12, c12⟩ := p12
 have zw12 := c12.size
 have s13 : Chg b4 (b4 + 1) w5 w12 := (Chg.zero (l := b4) (h := (b4 + 1)) (d10.t c12))
 refine wl_nil ?_
 refine dx_next s13 ?_
 refine dx_eff 6 rfl (by kernel_rfl) ?_
 refine sx_call rfl rfl Tryz.call33 (c_signed os_12.sv (by omega)) (fun v14 w14 p14 => ?_)
 obtain ⟨rfl, c14⟩ := p14
 have zw14 := c14.size
 have s15 : Chg b4 (b4 + 1) w5 w14 := (Chg.zero (l := b4) (h := (b4 + 1)) ((d10.t c12).t c14))
 refine wl_nil ?_
 refine dx_next s15 ?_
 refine dx_eff 7 rfl (by kernel_rfl) ?_
 have f19 := ((fb4.ext d10).ext c12).ext c14
 have f20 := os_12.ext c14
 refine sx_store (vs := [.bool (nz (!(ng x)) (dg x.natAbs)), v12]) rfl rfl f19 rfl Tryz.sizeOf25 (nbl rfl) (one_cons rfl (one_cons f20.one one_nil)) (fun w16 sw16 fw16 cw16 => ?_)
 have zw16 := cw16.size
 have gw16 : Blk w16 b4 [.bool (nz (!(ng x)) (dg x.natAbs)), v12] 25 := fw16
 have q22 := Chg.step (l := b4) (h := (b4 + 1)) (Chg.zero (l := b4) (h := (b4 + 1)) ((d10.t c12).t c14)) cw16 (by omega)
 have s21 : Chg b4 (b4 + 1) w5 w16 := q22
 refine wl_nil ?_
 refine dx_next s21 ?_
 refine dx_done (by kernel_rfl) ?_
 refine q_n (k6 _ _ ?_)
 refine sx_retc ?_
 refine sx_ret1 Tryz.results46 ⟨_, rfl, gw16.loadA (vs := [.bool (nz (!(ng x)) (dg x.natAbs)), v12]) (look_lit rfl) Tryz.isAgg25 Tryz.sizeOf25⟩ ?_
 have hh := neg_sg x
 rw [← hh.1, ← hh.2]
 have q23 := Chg.step (l := 0) (h := 0) (Chg.zero (l := 0) (h := 0) ((((cb2.t cb4).t d10).t c12).t c14)) cw16 (by omega)
 have f24 := f20.chg cw16 (by omega)
 exact ⟨_, rfl, (Own.mono f24 (by omega) (by omega)), q23⟩

theorem c_natAdd {w : World} {va : Value} {lva uva : Nat} {m : Nat} {vb : Value} {lvb uvb : Nat} {n : Nat} (hva : Sl w lva uva va (dg m)) (hvb : Sl w lvb uvb vb (dg n)) (hbm : (dg m).length ≤ 1000) (hbn : (dg n).length ≤ 1000) :
  Ret Tryz.prog 81 [va, vb] w fun v w' => ∃ s, v = s ∧ OwnI w' w.heap.size w'.heap.size s intT (dg (m + n)) ∧ Chg 0 0 w w' := by
 have hva0 := hva.fit
 have hvb0 := hvb.fit
 refine sx_enter Tryz.func81 rfl Tryz.ntmps81 (nbl rfl) ?_
 refine sx_seq fun K1 k1 => sx_region ?_
 refine av rfl rfl (wl_nil (q_n (k1 _ _ ?_)))
 refine sx_seq fun K2 k2 => sx_region ?_
 refine mv rfl rfl (sp rfl (px_len rfl Tryz.underlying23 hva0) ?_)
 refine mv rfl rfl (sp rfl (px_len rfl Tryz.underlying23 hvb0) ?_)
 refine sp rfl (px_max rfl rfl) ?_
 refine sp rfl (px_add rfl rfl (by omega)) ?_
 refine sx_make0 (c := max (dg m).length (dg n).length + 1) rfl xelt23 rfl (look_int rfl (by omega)) (by omega) (by unfold maxLen; omega) (fun s3 ws3 fs3 cs3 ls3 => ?_)
 have zws3 := cs3.size
 refine av rfl rfl (wl_nil (q_n (k2 _ _ ?_)))
 refine sx_seq fun K4 k4 => sx_region ?_
 refine av rfl rfl (wl_nil (q_n (k4 _ _ ?_)))
 refine sx_seq fun K5 k5 => ?_
 refine sx_seq fun K6 k6 => sx_region ?_
 refine av rfl rfl (wl_nil (q_n (k6 _ _ ?_)))
 refine sx_block ?_
 refine sx_loop (fun mm aa w' => ∃ (k : Nat) (s : Value) (os : List Int) (c : Nat), Agr 56 [(0, va), (1, vb), (5, s), (6, .int .i64 ((c : Nat) : Int)), (7, .int .i64 ↑k)] aa ∧ Chg w.heap.size ws3.heap.size ws3 w' ∧ Own w' w.heap.size w'.heap.size s intT os.length 1 (os.map (Value.int .i64)) ∧ (mm = max (dg m).length (dg n).length + 1 - k) ∧ (os.length = k) ∧ (Lm os) ∧ (c ≤ 1) ∧ (k ≤ max (dg m).length (dg n).length) ∧ (vl os + Bs ^ k * c = vl ((dg m).take k) + vl ((dg n).take k))) (_) (fun a ha => ⟨0, s3, [], 0, ha.sub (Sub.c 0 rfl (.c 1 rfl (.c 5 rfl (.c 6 (look_int (t := 6) rfl (by first | omega | simp)) (.c 7 (look_int (t := 7) rfl (by first | omega | simp)) .nil))))), Chg.refl _ _ _, (fs3.mono (by omega) (by omega)), rfl, rfl, Lm.nil, by omega, by omega, by simp [vl]⟩) ?_
 rintro mm aa wl7 ⟨k, s, os, c, hAwl7, cwl7, hs_s, hm, hos, hlm, hc, hk, hv⟩
 refine (show cw Tryz.prog 56 _ _ _ wl7 from ?_) aa hAwl7
 clear hAwl7
 have zwl7 := cwl7.size
 have am := (Lm_dg m).getD k
 have bn := (Lm_dg n).getD k
 refine sx_seq fun K8 k8 => ?_
 refine sx_seq fun K9 k9 => sx_region ?_
 refine mv rfl rfl (mv rfl rfl ?_)
 have f10 := hva0.ext cs3
 have f11 := f10.chg cwl7 (by omega)
 refine sp rfl (px_len rfl Tryz.underlying23 f11) ?_
 refine mv rfl rfl ?_
 have f12 := hvb0.ext cs3
 have f13 := f12.chg cwl7 (by omega)
 refine sp rfl (px_len rfl Tryz.underlying23 f13) ?_
 refine sp rfl (px_max rfl rfl) ?_
 refine sp rfl (px_lt rfl rfl) ?_
 refine wl_nil (q_n (k9 _ _ ?_))
 refine sx_condP rfl (fun h105 => ?_) (fun h105 => ?_)
 ·
  refine sx_skip ?_
  refine q_n (k8 _ _ ?_)
  refine sx_seq fun K14 k14 => ?_
  refine sx_block ?_
  refine sx_seq fun K15 k15 => ?_
  refine sx_seq fun K16 k16 => sx_region ?_
  refine mv rfl rfl (mv rfl rfl (sp rfl (px_len rfl Tryz.underlying23 f11) ?_))
  refine sp rfl (px_lt rfl rfl) ?_
  refine wl_nil (q_n (k16 _ _ ?_))
  refine sx_sub (Sub.c 0 rfl (.c 1 rfl (.c 5 rfl (.c 6 rfl (.c 7 rfl (.c 27 rfl .nil)))))) ?_
  refine sx_condP rfl (fun h106 => ?_) (fun h106 => ?_)
  ·
   refine sx_region ?_
   refine mv rfl rfl (mv rfl rfl (mv rfl rfl (sp rfl (px_index1 (j := k) rfl rfl (by omega) Tryz.underlying23 Tryz.sizeOf3 f11 (by omega)) ?_)))
   refine sp rfl (px_load rfl (f11.load1 (at_int (by omega)) Tryz.isAgg3)) ?_
   refine sp rfl (px_add rfl rfl (by omega)) ?_
   refine av rfl rfl (wl_nil (q_n (k15 _ _ ?_)))
   refine sx_seq fun K17 k17 => ?_
   refine sx_seq fun K18 k18 => sx_region ?_
   refine mv rfl rfl (mv rfl rfl (sp rfl (px_len rfl Tryz.underlying23 f13) ?_))
   refine sp rfl (px_lt rfl rfl) ?_
   refine wl_nil (q_n (k18 _ _ ?_))
   refine sx_sub (Sub.c 0 rfl (.c 1 rfl (.c 5 rfl (.c 6 rfl (.c 7 rfl (.c 37 rfl .nil)))))) ?_
   refine sx_condP rfl (fun h109 => ?_) (fun h109 => ?_)
   ·
    refine sx_region ?_
    refine mv rfl rfl (mv rfl rfl (mv rfl rfl (sp rfl (px_index1 (j := k) rfl rfl (by omega) Tryz.underlying23 Tryz.sizeOf3 f13 (by omega)) ?_)))
    refine sp rfl (px_load rfl (f13.load1 (at_int (by omega)) Tryz.isAgg3)) ?_
    refine sp rfl (px_add rfl rfl (by omega)) ?_
    refine av rfl rfl (wl_nil (q_n (k17 _ _ ?_)))
    refine sx_seq fun K19 k19 => sx_region ?_
    refine mv rfl rfl (mv rfl rfl (sp rfl (px_rem rfl rfl (by omega) (by omega)) ?_))
    refine sx_lit1 rfl xelt23 rfl rfl (fun s20 ws20 ss20 fs20 cs20 => ?_)
    have ns20 := Own.norm (f := (Value.int .i64)) (zs := [((((c : Nat) : Int) + ((dg m).getD k 0)) + ((dg n).getD k 0)) % 1000000000]) fs20
    have zws20 := cs20.size
    have f22 := hs_s.ext cs20
    refine sx_append rfl xelt23 rfl rfl f22 ns20.sv one_int (by omega) (by simp only [List.length_cons, List.length_nil]; omega) (by unfold maxLen; simp only [List.length_cons, List.length_nil]; omega) (fun a21 w21 fw21 cw21 => ?_)
    have nw21 := Own.app (f := (Value.int .i64)) (a := os) (b := [((((c : Nat) : Int) + ((dg m).getD k 0)) + ((dg n).getD k 0)) % 1000000000]) fw21
    have zw21 := cw21.size
    refine av rfl rfl (wl_nil (q_n (k19 _ _ ?_)))
    refine sx_sub (Sub.c 0 rfl (.c 1 rfl (.c 5 rfl (.c 6 rfl (.c 7 rfl .nil))))) ?_
    refine sx_region ?_
    refine mv rfl rfl (sp rfl (px_quo rfl rfl (by omega) (by omega) (by omega)) ?_)
    refine av rfl rfl (wl_nil ?_)
    refine q_bn (q_n (k14 _ _ ?_))
    refine sx_region ?_
    refine mv rfl rfl (sp rfl (px_add rfl rfl (by omega)) ?_)
    refine av rfl rfl (wl_nil ?_)
    have q23 := Chg.step (l := w.heap.size) (h := ws3.heap.size) cwl7 cs20 (by omega)
    have q24 := Chg.step (l := w.heap.size) (h := ws3.heap.size) q23 cw21 (by omega)
    have hs : (((((c : Nat) : Int) + ((dg m).getD k 0)) + ((dg n).getD k 0)) : Int) = ((c : Nat) : Int) + (((dg m).getD k 0).toNat : Nat) + (((dg n).getD k 0).toNat : Nat) := by omega
    have hv2 : vl (os ++ [(((((c : Nat) : Int) + ((dg m).getD k 0)) + ((dg n).getD k 0))) % 1000000000]) + Bs ^ (k + 1) * ((((((c : Nat) : Int) + ((dg m).getD k 0)) + ((dg n).getD k 0))) / 1000000000 : Int).toNat = vl ((dg m).take (k + 1)) + vl ((dg n).take (k + 1)) := by
     rw [vl_concat, hos, vl_take_succ', vl_take_succ', Nat.pow_succ]
     exact add_step hs hv
    have hX := mod_bd (s := ((((c : Nat) : Int) + ((dg m).getD k 0)) + ((dg n).getD k 0))) (by omega)
    exact fun a ha => ⟨_, by omega, (k + 1), a21, (os ++ ([((((c : Nat) : Int) + ((dg m).getD k 0)) + ((dg n).getD k 0)) % 1000000000])), ((((((c : Nat) : Int) + ((dg m).getD k 0)) + ((dg n).getD k 0))) / 1000000000 : Int).toNat, ha.sub (Sub.c 0 rfl (.c 1 rfl (.c 5 rfl (.c 6 (look_int (t := 6) rfl (by first | omega | simp)) (.c 7 (look_int (t := 7) rfl (by first | omega | simp)) .nil))))), q24, (nw21.mono (by omega) (by omega)), rfl, by simp [hos], hlm.append (Lm.single hX.1 hX.2), by omega, by omega, hv2⟩
   have gn := getD_ge (zs := dg n) (k := k) (by omega)
   refine sx_skip ?_
   refine q_n (k17 _ _ ?_)
   refine sx_seq fun K25 k25 => sx_region ?_
   refine mv rfl rfl (mv rfl rfl (sp rfl (px_rem rfl rfl (by omega) (by omega)) ?_))
   refine sx_lit1 rfl xelt23 rfl rfl (fun s26 ws26 ss26 fs26 cs26 => ?_)
   have ns26 := Own.norm (f := (Value.int .i64)) (zs := [(((c : Nat) : Int) + ((dg m).getD k 0)) % 1000000000]) fs26
   have zws26 := cs26.size
   have f28 := hs_s.ext cs26
   refine sx_append rfl xelt23 rfl rfl f28 ns26.sv one_int (by omega) (by simp only [List.length_cons, List.length_nil]; omega) (by unfold maxLen; simp only [List.length_cons, List.length_nil]; omega) (fun a27 w27 fw27 cw27 => ?_)
   have nw27 := Own.app (f := (Value.int .i64)) (a := os) (b := [(((c : Nat) : Int) + ((dg m).getD k 0)) % 1000000000]) fw27
   have zw27 := cw27.size
   refine av rfl rfl (wl_nil (q_n (k25 _ _ ?_)))
   refine sx_region ?_
   refine mv rfl rfl (sp rfl (px_quo rfl rfl (by omega) (by omega) (by omega)) ?_)
   refine av rfl rfl (wl_nil ?_)
   refine q_bn (q_n (k14 _ _ ?_))
   refine sx_region ?_
   refine mv rfl rfl (sp rfl (px_add rfl rfl (by omega)) ?_)
   refine av rfl rfl (wl_nil ?_)
   have q29 := Chg.step (l := w.heap.size) (h := ws3.heap.size) cwl7 cs26 (by omega)
   have q30 := Chg.step (l := w.heap.size) (h := ws3.heap.size) q29 cw27 (by omega)
   have hs : ((((c : Nat) : Int) + ((dg m).getD k 0)) : Int) = ((c : Nat) : Int) + (((dg m).getD k 0).toNat : Nat) + (((dg n).getD k 0).toNat : Nat) := by omega
   have hv2 : vl (os ++ [((((c : Nat) : Int) + ((dg m).getD k 0))) % 1000000000]) + Bs ^ (k + 1) * (((((c : Nat) : Int) + ((dg m).getD k 0))) / 1000000000 : Int).toNat = vl ((dg m).take (k + 1)) + vl ((dg n).take (k + 1)) := by
    rw [vl_concat, hos, vl_take_succ', vl_take_succ', Nat.pow_succ]
    exact add_step hs hv
   have hX := mod_bd (s := (((c : Nat) : Int) + ((dg m).getD k 0))) (by omega)
   exact fun a ha => ⟨_, by omega, (k + 1), a27, (os ++ ([(((c : Nat) : Int) + ((dg m).getD k 0)) % 1000000000])), (((((c : Nat) : Int) + ((dg m).getD k 0))) / 1000000000 : Int).toNat, ha.sub (Sub.c 0 rfl (.c 1 rfl (.c 5 rfl (.c 6 (look_int (t := 6) rfl (by first | omega | simp)) (.c 7 (look_int (t := 7) rfl (by first | omega | simp)) .nil))))), q30, (nw27.mono (by omega) (by omega)), rfl, by simp [hos], hlm.append (Lm.single hX.1 hX.2), by omega, by omega, hv2⟩
  have gm := getD_ge (zs := dg m) (k := k) (by omega)
  refine sx_skip ?_
  refine q_n (k15 _ _ ?_)
  refine sx_seq fun K31 k31 => ?_
  refine sx_seq fun K32 k32 => sx_region ?_
  refine mv rfl rfl (mv rfl rfl (sp rfl (px_len rfl Tryz.underlying23 f13) ?_))
  refine sp rfl (px_lt rfl rfl) ?_
  refine wl_nil (q_n (k32 _ _ ?_))
  refine sx_condP rfl (fun h109 => ?_) (fun h109 => ?_)
  ·
   refine sx_region ?_
   refine mv rfl rfl (mv rfl rfl (mv rfl rfl (sp rfl (px_index1 (j := k) rfl rfl (by omega) Tryz.underlying23 Tryz.sizeOf3 f13 (by omega)) ?_)))
   refine sp rfl (px_load rfl (f13.load1 (at_int (by omega)) Tryz.isAgg3)) ?_
   refine sp rfl (px_add rfl rfl (by omega)) ?_
   refine av rfl rfl (wl_nil (q_n (k31 _ _ ?_)))
   refine sx_sub (Sub.c 0 rfl (.c 1 rfl (.c 5 rfl (.c 6 rfl (.c 7 rfl .nil))))) ?_
   refine sx_seq fun K33 k33 => sx_region ?_
   refine mv rfl rfl (mv rfl rfl (sp rfl (px_rem rfl rfl (by omega) (by omega)) ?_))
   refine sx_lit1 rfl xelt23 rfl rfl (fun s34 ws34 ss34 fs34 cs34 => ?_)
   have ns34 := Own.norm (f := (Value.int .i64)) (zs := [(((c : Nat) : Int) + ((dg n).getD k 0)) % 1000000000]) fs34
   have zws34 := cs34.size
   have f36 := hs_s.ext cs34
   refine sx_append rfl xelt23 rfl rfl f36 ns34.sv one_int (by omega) (by simp only [List.length_cons, List.length_nil]; omega) (by unfold maxLen; simp only [List.length_cons, List.length_nil]; omega) (fun a35 w35 fw35 cw35 => ?_)
   have nw35 := Own.app (f := (Value.int .i64)) (a := os) (b := [(((c : Nat) : Int) + ((dg n).getD k 0)) % 1000000000]) fw35
   have zw35 := cw35.size
   refine av rfl rfl (wl_nil (q_n (k33 _ _ ?_)))
   refine sx_region ?_
   refine mv rfl rfl (sp rfl (px_quo rfl rfl (by omega) (by omega) (by omega)) ?_)
   refine av rfl rfl (wl_nil ?_)
   refine q_bn (q_n (k14 _ _ ?_))
   refine sx_region ?_
   refine mv rfl rfl (sp rfl (px_add rfl rfl (by omega)) ?_)
   refine av rfl rfl (wl_nil ?_)
   have q37 := Chg.step (l := w.heap.size) (h := ws3.heap.size) cwl7 cs34 (by omega)
   have q38 := Chg.step (l := w.heap.size) (h := ws3.heap.size) q37 cw35 (by omega)
   have hs : ((((c : Nat) : Int) + ((dg n).getD k 0)) : Int) = ((c : Nat) : Int) + (((dg m).getD k 0).toNat : Nat) + (((dg n).getD k 0).toNat : Nat) := by omega
   have hv2 : vl (os ++ [((((c : Nat) : Int) + ((dg n).getD k 0))) % 1000000000]) + Bs ^ (k + 1) * (((((c : Nat) : Int) + ((dg n).getD k 0))) / 1000000000 : Int).toNat = vl ((dg m).take (k + 1)) + vl ((dg n).take (k + 1)) := by
    rw [vl_concat, hos, vl_take_succ', vl_take_succ', Nat.pow_succ]
    exact add_step hs hv
   have hX := mod_bd (s := (((c : Nat) : Int) + ((dg n).getD k 0))) (by omega)
   exact fun a ha => ⟨_, by omega, (k + 1), a35, (os ++ ([(((c : Nat) : Int) + ((dg n).getD k 0)) % 1000000000])), (((((c : Nat) : Int) + ((dg n).getD k 0))) / 1000000000 : Int).toNat, ha.sub (Sub.c 0 rfl (.c 1 rfl (.c 5 rfl (.c 6 (look_int (t := 6) rfl (by first | omega | simp)) (.c 7 (look_int (t := 7) rfl (by first | omega | simp)) .nil))))), q38, (nw35.mono (by omega) (by omega)), rfl, by simp [hos], hlm.append (Lm.single hX.1 hX.2), by omega, by omega, hv2⟩
  have gn := getD_ge (zs := dg n) (k := k) (by omega)
  refine sx_skip ?_
  refine q_n (k31 _ _ ?_)
  refine sx_seq fun K39 k39 => sx_region ?_
  refine mv rfl rfl (mv rfl rfl (sp rfl (px_rem rfl rfl (by omega) (by omega)) ?_))
  refine sx_lit1 rfl xelt23 rfl rfl (fun s40 ws40 ss40 fs40 cs40 => ?_)
  have ns40 := Own.norm (f := (Value.int .i64)) (zs := [((c : Nat) : Int) % 1000000000]) fs40
  have zws40 := cs40.size
  have f42 := hs_s.ext cs40
  refine sx_append rfl xelt23 rfl rfl f42 ns40.sv one_int (by omega) (by simp only [List.length_cons, List.length_nil]; omega) (by unfold maxLen; simp only [List.length_cons, List.length_nil]; omega) (fun a41 w41 fw41 cw41 => ?_)
  have nw41 := Own.app (f := (Value.int .i64)) (a := os) (b := [((c : Nat) : Int) % 1000000000]) fw41
  have zw41 := cw41.size
  refine av rfl rfl (wl_nil (q_n (k39 _ _ ?_)))
  refine sx_sub (Sub.c 0 rfl (.c 1 rfl (.c 5 rfl (.c 6 rfl (.c 7 rfl .nil))))) ?_
  refine sx_region ?_
  refine mv rfl rfl (sp rfl (px_quo rfl rfl (by omega) (by omega) (by omega)) ?_)
  refine av rfl rfl (wl_nil ?_)
  refine q_bn (q_n (k14 _ _ ?_))
  refine sx_region ?_
  refine mv rfl rfl (sp rfl (px_add rfl rfl (by omega)) ?_)
  refine av rfl rfl (wl_nil ?_)
  have q43 := Chg.step (l := w.heap.size) (h := ws3.heap.size) cwl7 cs40 (by omega)
  have q44 := Chg.step (l := w.heap.size) (h := ws3.heap.size) q43 cw41 (by omega)
  have hs : (((c : Nat) : Int) : Int) = ((c : Nat) : Int) + (((dg m).getD k 0).toNat : Nat) + (((dg n).getD k 0).toNat : Nat) := by omega
  have hv2 : vl (os ++ [(((c : Nat) : Int)) % 1000000000]) + Bs ^ (k + 1) * ((((c : Nat) : Int)) / 1000000000 : Int).toNat = vl ((dg m).take (k + 1)) + vl ((dg n).take (k + 1)) := by
   rw [vl_concat, hos, vl_take_succ', vl_take_succ', Nat.pow_succ]
   exact add_step hs hv
  have hX := mod_bd (s := ((c : Nat) : Int)) (by omega)
  exact fun a ha => ⟨_, by omega, (k + 1), a41, (os ++ ([((c : Nat) : Int) % 1000000000])), ((((c : Nat) : Int)) / 1000000000 : Int).toNat, ha.sub (Sub.c 0 rfl (.c 1 rfl (.c 5 rfl (.c 6 (look_int (t := 6) rfl (by first | omega | simp)) (.c 7 (look_int (t := 7) rfl (by first | omega | simp)) .nil))))), q44, (nw41.mono (by omega) (by omega)), rfl, by simp [hos], hlm.append (Lm.single hX.1 hX.2), by omega, by omega, hv2⟩
 refine sx_exit ?_
 refine q_e (q_e (q_bx (q_n (k5 _ _ ?_))))
 refine sx_seq fun K45 k45 => ?_
 have ek : k = max (dg m).length (dg n).length := by omega
 have hz : Lm (os ++ [((c : Nat) : Int)]) := hlm.append (Lm.single (by omega) (by omega))
 have hvv : vl (os ++ [((c : Nat) : Int)]) = m + n := by rw [vl_concat, hos, Int.toNat_natCast, hv, vl_take_ge (by omega), vl_take_ge (by omega), vl_dg, vl_dg]
 refine sx_region ?_
 refine mv rfl rfl (mv rfl rfl ?_)
 refine sx_lit1 rfl xelt23 rfl rfl (fun s46 ws46 ss46 fs46 cs46 => ?_)
 have ns46 := Own.norm (f := (Value.int .i64)) (zs := [((c : Nat) : Int)]) fs46
 have zws46 := cs46.size
 have f48 := hs_s.ext cs46
 refine sx_append rfl xelt23 rfl rfl f48 ns46.sv one_int (by omega) (by simp only [List.length_cons, List.length_nil]; omega) (by unfold maxLen; simp only [List.length_cons, List.length_nil]; omega) (fun a47 w47 fw47 cw47 => ?_)
 have nw47 := Own.app (f := (Value.int .i64)) (a := os) (b := [((c : Nat) : Int)]) fw47
 have zw47 := cw47.size
 refine sx_call rfl rfl Tryz.call69 (c_trim nw47 (by assumption) (by first | omega | (simp only [List.length_append, List.length_set, List.length_replicate, List.length_cons, List.length_nil] at *; omega))) (fun v49 w49 p49 => ?_)
 obtain ⟨s49, rfl, os_49, c49⟩ := p49
 have zw49 := c49.size
 refine av rfl rfl (wl_nil (q_n (k45 _ _ ?_)))
 refine sx_sub (Sub.c 4 rfl .nil) ?_
 refine sx_retc ?_
 refine sx_ret1 Tryz.results81 rfl ?_
 have hr := os_49
 rw [hvv] at hr
 have q50 := Chg.step (l := 0) (h := 0) (Chg.zero (l := 0) (h := 0) cs3) cwl7 (by omega)
 have q51 := Chg.step (l := 0) (h := 0) q50 cs46 (by omega)
 have q52 := Chg.step (l := 0) (h := 0) q51 cw47 (by omega)
 have q53 := Chg.step (l := 0) (h := 0) q52 c49 (by omega)
 exact ⟨_, rfl, hr.mono (by omega) (by omega), q53⟩

theorem c_natAdd1 {w : World} {va : Value} {lva uva : Nat} {m : Nat} {vb : Value} {lvb uvb : Nat} {ys : List Int} (hva : Sl w lva uva va (dg m)) (hvb : Sl w lvb uvb vb (ys)) (hbm : (dg m).length ≤ 1000) (hy : ys = [1]) :
  Ret Tryz.prog 81 [va, vb] w fun v w' => ∃ s, v = s ∧ OwnI w' w.heap.size w'.heap.size s intT (dg (m + 1)) ∧ Chg 0 0 w w' := by
 rw [hy, ← dg_1] at hvb; exact c_natAdd hva hvb hbm (by rw [dg_1]; simp)

theorem c_natSub {w : World} {va : Value} {lva uva : Nat} {m : Nat} {vb : Value} {lvb uvb : Nat} {n : Nat} (hva : Sl w lva uva va (dg m)) (hvb : Sl w lvb uvb vb (dg n)) (hbm : (dg m).length ≤ 1000) (hbn : (dg n).length ≤ 1000) (hle : n ≤ m) :
  Ret Tryz.prog 82 [va, vb] w fun v w' => ∃ s, v = s ∧ OwnI w' w.heap.size w'.heap.size s intT (dg (m - n)) ∧ Chg 0 0 w w' := by
 have hva0 := hva.fit
 have hvb0 := hvb.fit
 refine sx_enter Tryz.func82 rfl Tryz.ntmps82 (nbl rfl) ?_
 refine sx_seq fun K1 k1 => sx_region ?_
 refine av rfl rfl (wl_nil (q_n (k1 _ _ ?_)))
 refine sx_seq fun K2 k2 => sx_region ?_
 refine mv rfl rfl (sp rfl (px_len rfl Tryz.underlying23 hva0) ?_)
 refine sx_make (c := (dg m).length) rfl xelt23 (rfl) (rfl) (by omega) (by unfold maxLen; omega) (fun s3 ws3 fs3 cs3 ls3 => ?_)
 have ns3 := fs3.made
 have zws3 := cs3.size
 refine av rfl rfl (wl_nil (q_n (k2 _ _ ?_)))
 refine sx_seq fun K4 k4 => sx_region ?_
 refine av rfl rfl (wl_nil (q_n (k4 _ _ ?_)))
 refine sx_seq fun K5 k5 => ?_
 refine sx_seq fun K6 k6 => sx_region ?_
 refine mv rfl rfl ?_
 have f7 := hva0.ext cs3
 refine sp rfl (px_len rfl Tryz.underlying23 f7) ?_
 refine mv rfl rfl (wl_nil (q_n (k6 _ _ ?_)))
 refine sx_block ?_
 refine sx_loop (fun mm aa w' => ∃ (k : Nat) (os : List Int) (c : Nat), Agr 44 [(0, va), (1, vb), (5, s3), (6, .int .i64 ((c : Nat) : Int)), (13, .int .i64 (↑(dg m).length)), (14, .int .i64 ↑k)] aa ∧ Chg w.heap.size ws3.heap.size ws3 w' ∧ Own w' w.heap.size ws3.heap.size s3 intT os.length 1 (os.map (Value.int .i64)) ∧ (mm = (dg m).length - k) ∧ (os.length = (dg m).length) ∧ (Lm os) ∧ (c ≤ 1) ∧ (k ≤ (dg m).length) ∧ (vl ((dg m).take k) + Bs ^ k * c = vl (os.take k) + vl ((dg n).take k))) (_) (fun a ha => ⟨0, List.replicate (dg m).length 0, 0, ha.sub (Sub.c 0 rfl (.c 1 rfl (.c 5 rfl (.c 6 (look_int (t := 6) rfl (by first | omega | simp)) (.c 13 (look_int (t := 13) rfl (by first | omega | simp)) (.c 14 (look_int (t := 14) rfl (by first | omega | simp)) .nil)))))), Chg.refl _ _ _, (ns3.mono (by omega) (by omega)), rfl, by simp, Lm.replicate _, by omega, by omega, by simp [vl]⟩) ?_
 rintro mm aa wl8 ⟨k, os, c, hAwl8, cwl8, hs_s3, hm, hos, hlm, hc, hk, hv⟩
 refine (show cw Tryz.prog 44 _ _ _ wl8 from ?_) aa hAwl8
 clear hAwl8
 have zwl8 := cwl8.size
 have am := (Lm_dg m).getD k
 have bn := (Lm_dg n).getD k
 refine sx_seq fun K9 k9 => sx_region ?_
 refine sp rfl (px_lt rfl rfl) ?_
 refine wl_nil (q_n (k9 _ _ ?_))
 refine sx_seq fun K10 k10 => ?_
 refine sx_condP rfl (fun h122 => ?_) (fun h122 => ?_)
 ·
  refine sx_skip ?_
  refine q_n (k10 _ _ ?_)
  refine sx_seq fun K11 k11 => ?_
  refine sx_block ?_
  refine sx_seq fun K12 k12 => sx_region ?_
  refine mv rfl rfl (av rfl rfl (wl_nil (q_n (k12 _ _ ?_))))
  refine sx_seq fun K13 k13 => sx_region ?_
  refine mv rfl rfl (mv rfl rfl ?_)
  have f14 := f7.chg cwl8 (by omega)
  refine sp rfl (px_index1 (j := k) rfl rfl (by omega) Tryz.underlying23 Tryz.sizeOf3 f14 (by omega)) ?_
  refine sp rfl (px_load rfl (f14.load1 (at_int (by omega)) Tryz.isAgg3)) ?_
  refine mv rfl rfl (sp rfl (px_sub rfl rfl (by omega)) ?_)
  refine av rfl rfl (wl_nil (q_n (k13 _ _ ?_)))
  refine sx_sub (Sub.c 0 rfl (.c 1 rfl (.c 5 rfl (.c 6 rfl (.c 7 rfl (.c 8 rfl (.c 13 rfl (.c 14 rfl .nil)))))))) ?_
  refine sx_seq fun K15 k15 => ?_
  refine sx_seq fun K16 k16 => sx_region ?_
  refine mv rfl rfl (mv rfl rfl ?_)
  have f17 := hvb0.ext cs3
  have f18 := f17.chg cwl8 (by omega)
  refine sp rfl (px_len rfl Tryz.underlying23 f18) ?_
  refine sp rfl (px_lt rfl rfl) ?_
  refine wl_nil (q_n (k16 _ _ ?_))
  refine sx_condP rfl (fun h124 => ?_) (fun h124 => ?_)
  ·
   refine sx_region ?_
   refine mv rfl rfl (mv rfl rfl (mv rfl rfl (sp rfl (px_index1 (j := k) rfl rfl (by omega) Tryz.underlying23 Tryz.sizeOf3 f18 (by omega)) ?_)))
   refine sp rfl (px_load rfl (f18.load1 (at_int (by omega)) Tryz.isAgg3)) ?_
   refine sp rfl (px_sub rfl rfl (by omega)) ?_
   refine av rfl rfl (wl_nil (q_n (k15 _ _ ?_)))
   refine sx_sub (Sub.c 0 rfl (.c 1 rfl (.c 5 rfl (.c 6 rfl (.c 7 rfl (.c 8 rfl (.c 13 rfl (.c 14 rfl .nil)))))))) ?_
   refine sx_seq fun K19 k19 => sx_region ?_
   refine av rfl rfl (wl_nil (q_n (k19 _ _ ?_)))
   refine sx_seq fun K20 k20 => ?_
   refine sx_seq fun K21 k21 => sx_region ?_
   refine mv rfl rfl (sp rfl (px_lt rfl rfl) ?_)
   refine wl_nil (q_n (k21 _ _ ?_))
   refine sx_condP rfl (fun h128 => ?_) (fun h128 => ?_)
   ·
    refine sx_seq fun K22 k22 => sx_region ?_
    refine mv rfl rfl (sp rfl (px_add rfl rfl (by omega)) ?_)
    refine av rfl rfl (wl_nil (q_n (k22 _ _ ?_)))
    refine sx_region ?_
    refine av rfl rfl (wl_nil (q_n (k20 _ _ ?_)))
    refine sx_region ?_
    refine mv rfl rfl (mv rfl rfl (mv rfl rfl (sp rfl (px_index1 (j := k) rfl rfl (by omega) Tryz.underlying23 Tryz.sizeOf3 hs_s3.sv (by omega)) ?_)))
    refine sx_storeO rfl rfl hs_s3 (by first | omega | (simp only [List.length_map]; omega)) Tryz.sizeOf3 rfl (fun w23 sw23 fw23 cw23 => ?_)
    have zw23 := cw23.size
    have nw23 := fw23.set
    refine wl_nil ?_
    refine q_bn (q_n (k11 _ _ ?_))
    refine sx_sub (Sub.c 0 rfl (.c 1 rfl (.c 5 rfl (.c 6 rfl (.c 13 rfl (.c 14 rfl .nil)))))) ?_
    refine sx_region ?_
    refine sp rfl (px_add rfl rfl (by omega)) ?_
    refine mv rfl rfl (wl_nil ?_)
    have q24 := Chg.step (l := w.heap.size) (h := ws3.heap.size) cwl8 cw23 (by omega)
    have hs : ((dg m).getD k 0).toNat + Bs * 1 = ((dg n).getD k 0).toNat + c + ((((((dg m).getD k 0) - ((c : Nat) : Int)) - ((dg n).getD k 0)) + 1000000000) : Int).toNat := by simp only [Bs]; omega
    have hv2 : vl ((dg m).take (k + 1)) + Bs ^ (k + 1) * 1 = vl ((os.set k ((((((dg m).getD k 0) - ((c : Nat) : Int)) - ((dg n).getD k 0)) + 1000000000))).take (k + 1)) + vl ((dg n).take (k + 1)) := by
     rw [vl_take_set (by omega), vl_take_succ', vl_take_succ', Nat.pow_succ]
     exact sub_step hs hv
    exact fun a ha => ⟨_, by omega, (k + 1), ((os).set k (((((dg m).getD k 0) - ((c : Nat) : Int)) - ((dg n).getD k 0)) + 1000000000)), 1, ha.sub (Sub.c 0 rfl (.c 1 rfl (.c 5 rfl (.c 6 (look_int (t := 6) rfl (by first | omega | simp)) (.c 13 rfl (.c 14 (look_int (t := 14) rfl (by first | omega | simp)) .nil)))))), q24, (nw23.mono (by omega) (by omega)), rfl, by simp [hos], hlm.set k (by omega) (by omega), by omega, by omega, hv2⟩
   refine sx_skip ?_
   refine q_n (k20 _ _ ?_)
   refine sx_region ?_
   refine mv rfl rfl (mv rfl rfl (mv rfl rfl (sp rfl (px_index1 (j := k) rfl rfl (by omega) Tryz.underlying23 Tryz.sizeOf3 hs_s3.sv (by omega)) ?_)))
   refine sx_storeO rfl rfl hs_s3 (by first | omega | (simp only [List.length_map]; omega)) Tryz.sizeOf3 rfl (fun w25 sw25 fw25 cw25 => ?_)
   have zw25 := cw25.size
   have nw25 := fw25.set
   refine wl_nil ?_
   refine q_bn (q_n (k11 _ _ ?_))
   refine sx_region ?_
   refine sp rfl (px_add rfl rfl (by omega)) ?_
   refine mv rfl rfl (wl_nil ?_)
   have q26 := Chg.step (l := w.heap.size) (h := ws3.heap.size) cwl8 cw25 (by omega)
   have hs : ((dg m).getD k 0).toNat + Bs * 0 = ((dg n).getD k 0).toNat + c + (((((dg m).getD k 0) - ((c : Nat) : Int)) - ((dg n).getD k 0)) : Int).toNat := by simp only [Bs]; omega
   have hv2 : vl ((dg m).take (k + 1)) + Bs ^ (k + 1) * 0 = vl ((os.set k (((((dg m).getD k 0) - ((c : Nat) : Int)) - ((dg n).getD k 0)))).take (k + 1)) + vl ((dg n).take (k + 1)) := by
    rw [vl_take_set (by omega), vl_take_succ', vl_take_succ', Nat.pow_succ]
    exact sub_step hs hv
   exact fun a ha => ⟨_, by omega, (k + 1), ((os).set k ((((dg m).getD k 0) - ((c : Nat) : Int)) - ((dg n).getD k 0))), 0, ha.sub (Sub.c 0 rfl (.c 1 rfl (.c 5 rfl (.c 6 (look_int (t := 6) rfl (by first | omega | simp)) (.c 13 rfl (.c 14 (look_int (t := 14) rfl (by first | omega | simp)) .nil)))))), q26, (nw25.mono (by omega) (by omega)), rfl, by simp [hos], hlm.set k (by omega) (by omega), by omega, by omega, hv2⟩
  have gn := getD_ge (zs := dg n) (k := k) (by omega)
  refine sx_skip ?_
  refine q_n (k15 _ _ ?_)
  refine sx_seq fun K27 k27 => sx_region ?_
  refine av rfl rfl (wl_nil (q_n (k27 _ _ ?_)))
  refine sx_seq fun K28 k28 => ?_
  refine sx_seq fun K29 k29 => sx_region ?_
  refine mv rfl rfl (sp rfl (px_lt rfl rfl) ?_)
  refine wl_nil (q_n (k29 _ _ ?_))
  refine sx_condP rfl (fun h128 => ?_) (fun h128 => ?_)
  ·
   refine sx_seq fun K30 k30 => sx_region ?_
   refine mv rfl rfl (sp rfl (px_add rfl rfl (by omega)) ?_)
   refine av rfl rfl (wl_nil (q_n (k30 _ _ ?_)))
   refine sx_sub (Sub.c 0 rfl (.c 1 rfl (.c 5 rfl (.c 6 rfl (.c 7 rfl (.c 8 rfl (.c 13 rfl (.c 14 rfl .nil)))))))) ?_
   refine sx_region ?_
   refine av rfl rfl (wl_nil (q_n (k28 _ _ ?_)))
   refine sx_region ?_
   refine mv rfl rfl (mv rfl rfl (mv rfl rfl (sp rfl (px_index1 (j := k) rfl rfl (by omega) Tryz.underlying23 Tryz.sizeOf3 hs_s3.sv (by omega)) ?_)))
   refine sx_storeO rfl rfl hs_s3 (by first | omega | (simp only [List.length_map]; omega)) Tryz.sizeOf3 rfl (fun w31 sw31 fw31 cw31 => ?_)
   have zw31 := cw31.size
   have nw31 := fw31.set
   refine wl_nil ?_
   refine q_bn (q_n (k11 _ _ ?_))
   refine sx_region ?_
   refine sp rfl (px_add rfl rfl (by omega)) ?_
   refine mv rfl rfl (wl_nil ?_)
   have q32 := Chg.step (l := w.heap.size) (h := ws3.heap.size) cwl8 cw31 (by omega)
   have hs : ((dg m).getD k 0).toNat + Bs * 1 = ((dg n).getD k 0).toNat + c + (((((dg m).getD k 0) - ((c : Nat) : Int)) + 1000000000) : Int).toNat := by simp only [Bs]; omega
   have hv2 : vl ((dg m).take (k + 1)) + Bs ^ (k + 1) * 1 = vl ((os.set k (((((dg m).getD k 0) - ((c : Nat) : Int)) + 1000000000))).take (k + 1)) + vl ((dg n).take (k + 1)) := by
    rw [vl_take_set (by omega), vl_take_succ', vl_take_succ', Nat.pow_succ]
    exact sub_step hs hv
   exact fun a ha => ⟨_, by omega, (k + 1), ((os).set k ((((dg m).getD k 0) - ((c : Nat) : Int)) + 1000000000)), 1, ha.sub (Sub.c 0 rfl (.c 1 rfl (.c 5 rfl (.c 6 (look_int (t := 6) rfl (by first | omega | simp)) (.c 13 rfl (.c 14 (look_int (t := 14) rfl (by first | omega | simp)) .nil)))))), q32, (nw31.mono (by omega) (by omega)), rfl, by simp [hos], hlm.set k (by omega) (by omega), by omega, by omega, hv2⟩
  refine sx_skip ?_
  refine q_n (k28 _ _ ?_)
  refine sx_region ?_
  refine mv rfl rfl (mv rfl rfl (mv rfl rfl (sp rfl (px_index1 (j := k) rfl rfl (by omega) Tryz.underlying23 Tryz.sizeOf3 hs_s3.sv (by omega)) ?_)))
  refine sx_storeO rfl rfl hs_s3 (by first | omega | (simp only [List.length_map]; omega)) Tryz.sizeOf3 rfl (fun w33 sw33 fw33 cw33 => ?_)
  have zw33 := cw33.size
  have nw33 := fw33.set
  refine wl_nil ?_
  refine q_bn (q_n (k11 _ _ ?_))
  refine sx_sub (Sub.c 0 rfl (.c 1 rfl (.c 5 rfl (.c 6 rfl (.c 13 rfl (.c 14 rfl .nil)))))) ?_
  refine sx_region ?_
  refine sp rfl (px_add rfl rfl (by omega)) ?_
  refine mv rfl rfl (wl_nil ?_)
  have q34 := Chg.step (l := w.heap.size) (h := ws3.heap.size) cwl8 cw33 (by omega)
  have hs : ((dg m).getD k 0).toNat + Bs * 0 = ((dg n).getD k 0).toNat + c + ((((dg m).getD k 0) - ((c : Nat) : Int)) : Int).toNat := by simp only [Bs]; omega
  have hv2 : vl ((dg m).take (k + 1)) + Bs ^ (k + 1) * 0 = vl ((os.set k ((((dg m).getD k 0) - ((c : Nat) : Int)))).take (k + 1)) + vl ((dg n).take (k + 1)) := by
   rw [vl_take_set (by omega), vl_take_succ', vl_take_succ', Nat.pow_succ]
   exact sub_step hs hv
  exact fun a ha => ⟨_, by omega, (k + 1), ((os).set k (((dg m).getD k 0) - ((c : Nat) : Int))), 0, ha.sub (Sub.c 0 rfl (.c 1 rfl (.c 5 rfl (.c 6 (look_int (t := 6) rfl (by first | omega | simp)) (.c 13 rfl (.c 14 (look_int (t := 14) rfl (by first | omega | simp)) .nil)))))), q34, (nw33.mono (by omega) (by omega)), rfl, by simp [hos], hlm.set k (by omega) (by omega), by omega, by omega, hv2⟩
 refine sx_exit ?_
 refine q_e (q_e (q_bx (q_n (k5 _ _ ?_))))
 refine sx_seq fun K35 k35 => ?_
 have ek : k = (dg m).length := by omega
 have hnm := len_le hle
 subst ek
 rw [List.take_length, vl_dg, vl_take_ge (show (dg n).length ≤ (dg m).length from hnm), vl_dg, ← hos, List.take_length] at hv
 have hend := sub_end hv hle (vl_lt hlm) hc
 have hvv := hend.2
 have hz := hlm
 refine sx_region ?_
 refine mv rfl rfl (sx_call rfl rfl Tryz.call69 (c_trim hs_s3 (by assumption) (by first | omega | (simp only [List.length_append, List.length_set, List.length_replicate, List.length_cons, List.length_nil] at *; omega))) (fun v36 w36 p36 => ?_))
 obtain ⟨s36, rfl, os_36, c36⟩ := p36
 have zw36 := c36.size
 refine av rfl rfl (wl_nil (q_n (k35 _ _ ?_)))
 refine sx_retc ?_
 refine sx_ret1 Tryz.results82 rfl ?_
 have hr := os_36
 rw [hvv] at hr
 have q37 := Chg.step (l := 0) (h := 0) (Chg.zero (l := 0) (h := 0) cs3) cwl8 (by omega)
 have q38 := Chg.step (l := 0) (h := 0) q37 c36 (by omega)
 exact ⟨_, rfl, hr.mono (by omega) (by omega), q38⟩

theorem c_intAdd {w : World} {va : Value} {lva uva : Nat} {x : Int} {vb : Value} {lvb uvb : Nat} {y : Int} (hva : Sl w lva uva va (dg x.natAbs)) (hvb : Sl w lvb uvb vb (dg y.natAbs)) (hbx : (dg x.natAbs).length ≤ 1000) (hby : (dg y.natAbs).length ≤ 1000) :
  Ret Tryz.prog 44 [.agg #[.bool (ng x), va], .agg #[.bool (ng y), vb]] w fun v w' => ∃ s, v = .agg #[.bool (ng (x + y)), s] ∧ OwnI w' w.heap.size w'.heap.size s intT (dg (x + y).natAbs) ∧ Chg 0 0 w w' := by
 have hva0 := hva.fit
 have hvb0 := hvb.fit
 have l2 := len_add x.natAbs y.natAbs
 have l3 := len_le (Nat.sub_le x.natAbs y.natAbs)
 have l4 := len_le (Nat.sub_le y.natAbs x.natAbs)
 refine sx_enter Tryz.func44 rfl Tryz.ntmps44 (nbl rfl) ?_
 refine sx_seq fun K1 k1 => sx_region ?_
 refine sx_box [.bool (ng x), va] rfl rfl rfl (fun b2 w3 eb2 sb2 fb2 cb2 => ?_)
 have zw3 := cb2.size
 refine sx_box [.bool (ng y), vb] rfl rfl rfl (fun b4 w5 eb4 sb4 fb4 cb4 => ?_)
 have zw5 := cb4.size
 refine sx_alloc [.bool false, (.slice none 0 0)] rfl Tryz.zeroValue25 rfl (fun b6 w7 eb6 sb6 fb6 cb6 => ?_)
 have zw7 := cb6.size
 refine wl_nil (q_n (k1 _ _ ?_))
 refine sx_seq fun K8 k8 => ?_
 refine sx_seq fun K9 k9 => sx_region ?_
 refine sp rfl (px_field rfl xfld25x0) ?_
 have f10 := fb2.ext cb4
 have f11 := f10.ext cb6
 refine sp rfl (px_load rfl (f11.load1 rfl Tryz.isAgg4)) ?_
 refine sp rfl (px_field rfl xfld25x0) ?_
 have f12 := fb4.ext cb6
 refine sp rfl (px_load rfl (f12.load1 rfl Tryz.isAgg4)) ?_
 refine sp rfl (px_eqB Tryz.underlying4 rfl rfl) ?_
 refine wl_nil (q_n (k9 _ _ ?_))
 refine sx_condB rfl (fun h46 => ?_) (fun h46 => ?_)
 ·
  refine sx_seq fun K13 k13 => ?_
  have f14 := hva0.ext cb2
  have f15 := f14.ext cb4
  have f16 := f15.ext cb6
  have f17 := hvb0.ext cb2
  have f18 := f17.ext cb4
  have f19 := f18.ext cb6
  refine dx_region (fun w' => Chg b6 (b6 + 1) w7 w') (by kernel_rfl) (Chg.zero (Chg.drew _)) ?_
  have d20 := Chg.drew w7
  have s20 : Chg b6 (b6 + 1) w7 (World.drew w7) := Chg.zero (Chg.drew _)
  have y20 : (World.drew w7).heap.size = w7.heap.size := rfl
  generalize World.drew w7 = w20 at *
  have zw20 := d20.size
  refine dt 0 rfl rfl rfl rfl s20 (fun _ hS => px_field rfl xfld25x0) ?_
  refine dt 1 rfl rfl rfl rfl s20 (fun _ hS => px_load rfl ((f11.chg hS (by omega)).load1 rfl Tryz.isAgg4)) ?_
  refine dt 2 rfl rfl rfl rfl s20 (fun _ hS => px_field rfl xfld25x1) ?_
  refine dt 3 rfl rfl rfl rfl s20 (fun _ hS => px_load rfl ((f11.chg hS (by omega)).load1 rfl Tryz.isAgg23)) ?_
  refine dt 4 rfl rfl rfl rfl s20 (fun _ hS => px_field rfl xfld25x1) ?_
  refine dt 5 rfl rfl rfl rfl s20 (fun _ hS => px_load rfl ((f12.chg hS (by omega)).load1 rfl Tryz.isAgg23)) ?_
  refine dx_eff 6 rfl (by kernel_rfl) ?_
  have f21 := f16.ext d20
  have f22 := f19.ext d20
  refine sx_call rfl rfl Tryz.call81 (c_natAdd f21 f22 (by omega) (by omega)) (fun v23 w23 p23 => ?_)
  obtain ⟨s23, rfl, os_23, c23⟩ := p23
  have zw23 := c23.size
  have s24 : Chg b6 (b6 + 1) w7 w23 := (Chg.zero (l := b6) (h := (b6 + 1)) (d20.t c23))
  refine wl_nil ?_
  refine dx_next s24 ?_
  refine dx_eff 7 rfl (by kernel_rfl) ?_
  refine sx_call rfl rfl Tryz.call33 (c_signed os_23.sv (by omega)) (fun v25 w25 p25 => ?_)
  obtain ⟨rfl, c25⟩ := p25
  have zw25 := c25.size
  have s26 : Chg b6 (b6 + 1) w7 w25 := (Chg.zero (l := b6) (h := (b6 + 1)) ((d20.t c23).t c25))
  refine wl_nil ?_
  refine dx_next s26 ?_
  refine dx_eff 8 rfl (by kernel_rfl) ?_
  have f30 := ((fb6.ext d20).ext c23).ext c25
  have f31 := os_23.ext c25
  refine sx_store (vs := [.bool (nz (ng x) (dg (x.natAbs + y.natAbs))), v23]) rfl rfl f30 rfl Tryz.sizeOf25 (nbl rfl) (one_cons rfl (one_cons f31.one one_nil)) (fun w27 sw27 fw27 cw27 => ?_)
  have zw27 := cw27.size
  have gw27 : Blk w27 b6 [.bool (nz (ng x) (dg (x.natAbs + y.natAbs))), v23] 25 := fw27
  have q33 := Chg.step (l := b6) (h := (b6 + 1)) (Chg.zero (l := b6) (h := (b6 + 1)) ((d20.t c23).t c25)) cw27 (by omega)
  have s32 : Chg b6 (b6 + 1) w7 w27 := q33
  refine wl_nil ?_
  refine dx_next s32 ?_
  refine dx_done (by kernel_rfl) ?_
  refine q_n (k13 _ _ ?_)
  refine sx_sub (Sub.c 2 rfl (.c 3 rfl (.c 4 rfl .nil))) ?_
  refine sx_retc ?_
  refine q_r (sx_ret1 Tryz.results44 ⟨_, rfl, gw27.loadA (vs := [.bool (nz (ng x) (dg (x.natAbs + y.natAbs))), v23]) (look_lit rfl) Tryz.isAgg25 Tryz.sizeOf25⟩ ?_)
  have hh := add_sg h46
  rw [← hh.1, ← hh.2]
  have f34 := f31.chg cw27 (by omega)
  have q35 := Chg.step (l := 0) (h := 0) (Chg.zero (l := 0) (h := 0) (((((cb2.t cb4).t cb6).t d20).t c23).t c25)) cw27 (by omega)
  exact ⟨_, rfl, (Own.mono f34 (by omega) (by omega)), q35⟩
 refine sx_skip ?_
 refine q_n (k8 _ _ ?_)
 refine sx_seq fun K36 k36 => ?_
 refine sx_seq fun K37 k37 => sx_region ?_
 refine sp rfl (px_field rfl xfld25x1) ?_
 refine sp rfl (px_load rfl (f11.load1 rfl Tryz.isAgg23)) ?_
 refine sp rfl (px_field rfl xfld25x1) ?_
 refine sp rfl (px_load rfl (f12.load1 rfl Tryz.isAgg23)) ?_
 have f38 := hva0.ext cb2
 have f39 := f38.ext cb4
 have f40 := f39.ext cb6
 have f41 := hvb0.ext cb2
 have f42 := f41.ext cb4
 have f43 := f42.ext cb6
 refine sx_call rfl rfl Tryz.call74 (c_natCmp f40 f43 (by omega)) (fun v44 w44 p44 => ?_)
 obtain ⟨rfl, c44⟩ := p44
 have zw44 := c44.size
 refine sp rfl (px_lt rfl rfl) ?_
 refine wl_nil (q_n (k37 _ _ ?_))
 refine sx_sub (Sub.c 2 rfl (.c 3 rfl (.c 4 rfl (.c 23 rfl .nil)))) ?_
 refine sx_condP rfl (fun h49 => ?_) (fun h49 => ?_)
 ·
  rw [cmpL_dg] at h49
  have hlt := cmpN_neg.1 h49
  refine sx_region ?_
  have f45 := f12.ext c44
  refine sp rfl (px_load rfl (f45.loadA (vs := [.bool (ng y), vb]) (look_lit rfl) Tryz.isAgg25 Tryz.sizeOf25)) ?_
  have f46 := f11.ext c44
  refine sp rfl (px_load rfl (f46.loadA (vs := [.bool (ng x), va]) (look_lit rfl) Tryz.isAgg25 Tryz.sizeOf25)) ?_
  have f48 := f43.ext c44
  refine sx_store (vs := [.bool (ng y), vb]) rfl rfl f46 rfl Tryz.sizeOf25 (nbl rfl) (one_cons rfl (one_cons f48.one one_nil)) (fun w47 sw47 fw47 cw47 => ?_)
  have zw47 := cw47.size
  have gw47 : Blk w47 b2 [.bool (ng y), vb] 25 := fw47
  have f50 := f45.chg cw47 (by omega)
  have f52 := (f40.ext c44).chg cw47 (by omega)
  refine sx_store (vs := [.bool (ng x), va]) rfl rfl f50 rfl Tryz.sizeOf25 (nbl rfl) (one_cons rfl (one_cons f52.one one_nil)) (fun w49 sw49 fw49 cw49 => ?_)
  have zw49 := cw49.size
  have gw49 : Blk w49 b4 [.bool (ng x), va] 25 := fw49
  refine wl_nil (q_n (k36 _ _ ?_))
  refine sx_seq fun K53 k53 => ?_
  have f54 := gw47.chg cw49 (by omega)
  have f55 := f52.chg cw49 (by omega)
  have f56 := f48.chg cw47 (by omega)
  have f57 := f56.chg cw49 (by omega)
  refine dx_region (fun w' => Chg b6 (b6 + 1) w49 w') (by kernel_rfl) (Chg.zero (Chg.drew _)) ?_
  have d58 := Chg.drew w49
  have s58 : Chg b6 (b6 + 1) w49 (World.drew w49) := Chg.zero (Chg.drew _)
  have y58 : (World.drew w49).heap.size = w49.heap.size := rfl
  generalize World.drew w49 = w58 at *
  have zw58 := d58.size
  refine dt 0 rfl rfl rfl rfl s58 (fun _ hS => px_field rfl xfld25x0) ?_
  refine dt 1 rfl rfl rfl rfl s58 (fun _ hS => px_load rfl ((f54.chg hS (by omega)).load1 rfl Tryz.isAgg4)) ?_
  refine dt 2 rfl rfl rfl rfl s58 (fun _ hS => px_field rfl xfld25x1) ?_
  refine dt 3 rfl rfl rfl rfl s58 (fun _ hS => px_load rfl ((f54.chg hS (by omega)).load1 rfl Tryz.isAgg23)) ?_
  refine dt 4 rfl rfl rfl rfl s58 (fun _ hS => px_field rfl xfld25x1) ?_
  refine dt 5 rfl rfl rfl rfl s58 (fun _ hS => px_load rfl ((gw49.chg hS (by omega)).load1 rfl Tryz.isAgg23)) ?_
  refine dx_eff 6 rfl (by kernel_rfl) ?_
  have f59 := f57.ext d58
  have f60 := f55.ext d58
  refine sx_call rfl rfl Tryz.call82 (c_natSub f59 f60 (by omega) (by omega) (by omega)) (fun v61 w61 p61 => ?_)
  obtain ⟨s61, rfl, os_61, c61⟩ := p61
  have zw61 := c61.size
  have s62 : Chg b6 (b6 + 1) w49 w61 := (Chg.zero (l := b6) (h := (b6 + 1)) (d58.t c61))
  refine wl_nil ?_
  refine dx_next s62 ?_
  refine dx_eff 7 rfl (by kernel_rfl) ?_
  refine sx_call rfl rfl Tryz.call33 (c_signed os_61.sv (by omega)) (fun v63 w63 p63 => ?_)
  obtain ⟨rfl, c63⟩ := p63
  have zw63 := c63.size
  have s64 : Chg b6 (b6 + 1) w49 w63 := (Chg.zero (l := b6) (h := (b6 + 1)) ((d58.t c61).t c63))
  refine wl_nil ?_
  refine dx_next s64 ?_
  refine dx_eff 8 rfl (by kernel_rfl) ?_
  have f67 := (fb6.ext c44).chg cw47 (by omega)
  have f68 := f67.chg cw49 (by omega)
  have f71 := ((f68.ext d58).ext c61).ext c63
  have f72 := os_61.ext c63
  refine sx_store (vs := [.bool (nz (ng y) (dg (y.natAbs - x.natAbs))), v61]) rfl rfl f71 rfl Tryz.sizeOf25 (nbl rfl) (one_cons rfl (one_cons f72.one one_nil)) (fun w65 sw65 fw65 cw65 => ?_)
  have zw65 := cw65.size
  have gw65 : Blk w65 b6 [.bool (nz (ng y) (dg (y.natAbs - x.natAbs))), v61] 25 := fw65
  have q74 := Chg.step (l := b6) (h := (b6 + 1)) (Chg.zero (l := b6) (h := (b6 + 1)) ((d58.t c61).t c63)) cw65 (by omega)
  have s73 : Chg b6 (b6 + 1) w49 w65 := q74
  refine wl_nil ?_
  refine dx_next s73 ?_
  refine dx_done (by kernel_rfl) ?_
  refine q_n (k53 _ _ ?_)
  refine sx_retc ?_
  refine sx_ret1 Tryz.results44 ⟨_, rfl, gw65.loadA (vs := [.bool (nz (ng y) (dg (y.natAbs - x.natAbs))), v61]) (look_lit rfl) Tryz.isAgg25 Tryz.sizeOf25⟩ ?_
  have hh := (sub_sg2 h46 (by omega))
  rw [← hh.1, ← hh.2]
  have f75 := f72.chg cw65 (by omega)
  have q76 := Chg.step (l := 0) (h := 0) (Chg.zero (l := 0) (h := 0) (((cb2.t cb4).t cb6).t c44)) cw47 (by omega)
  have q77 := Chg.step (l := 0) (h := 0) q76 cw49 (by omega)
  have q78 := Chg.step (l := 0) (h := 0) q77 ((d58.t c61).t c63) (by omega)
  have q79 := Chg.step (l := 0) (h := 0) q78 cw65 (by omega)
  exact ⟨_, rfl, (Own.mono f75 (by omega) (by omega)), q79⟩
 rw [cmpL_dg] at h49
 have hge := cmpN_nonneg.1 (Int.not_lt.1 h49)
 refine sx_skip ?_
 refine q_n (k36 _ _ ?_)
 refine sx_seq fun K80 k80 => ?_
 have f81 := f11.ext c44
 have f82 := f12.ext c44
 refine dx_region (fun w' => Chg b6 (b6 + 1) w44 w') (by kernel_rfl) (Chg.zero (Chg.drew _)) ?_
 have d85 := Chg.drew w44
 have s85 : Chg b6 (b6 + 1) w44 (World.drew w44) := Chg.zero (Chg.drew _)
 have y85 : (World.drew w44).heap.size = w44.heap.size := rfl
 generalize World.drew w44 = w85 at *
 have zw85 := d85.size
 refine dt 0 rfl rfl rfl rfl s85 (fun _ hS => px_field rfl xfld25x0) ?_
 refine dt 1 rfl rfl rfl rfl s85 (fun _ hS => px_load rfl ((f81.chg hS (by omega)).load1 rfl Tryz.isAgg4)) ?_
 refine dt 2 rfl rfl rfl rfl s85 (fun _ hS => px_field rfl xfld25x1) ?_
 refine dt 3 rfl rfl rfl rfl s85 (fun _ hS => px_load rfl ((f81.chg hS (by omega)).load1 rfl Tryz.isAgg23)) ?_
 refine dt 4 rfl rfl rfl rfl s85 (fun _ hS => px_field rfl xfld25x1) ?_
 refine dt 5 rfl rfl rfl rfl s85 (fun _ hS => px_load rfl ((f82.chg hS (by omega)).load1 rfl Tryz.isAgg23)) ?_
 refine dx_eff 6 rfl (by kernel_rfl) ?_
 have f86 := (f40.ext c44).ext d85
 have f87 := (f43.ext c44).ext d85
 refine sx_call rfl rfl Tryz.call82 (c_natSub f86 f87 (by omega) (by omega) (by omega)) (fun v88 w88 p88 => ?_)
 obtain ⟨s88, rfl, os_88, c88⟩ := p88
 have zw88 := c88.size
 have s89 : Chg b6 (b6 + 1) w44 w88 := (Chg.zero (l := b6) (h := (b6 + 1)) (d85.t c88))
 refine wl_nil ?_
 refine dx_next s89 ?_
 refine dx_eff 7 rfl (by kernel_rfl) ?_
 refine sx_call rfl rfl Tryz.call33 (c_signed os_88.sv (by omega)) (fun v90 w90 p90 => ?_)
 obtain ⟨rfl, c90⟩ := p90
 have zw90 := c90.size
 have s91 : Chg b6 (b6 + 1) w44 w90 := (Chg.zero (l := b6) (h := (b6 + 1)) ((d85.t c88).t c90))
 refine wl_nil ?_
 refine dx_next s91 ?_
 refine dx_eff 8 rfl (by kernel_rfl) ?_
 have f96 := (((fb6.ext c44).ext d85).ext c88).ext c90
 have f97 := os_88.ext c90
 refine sx_store (vs := [.bool (nz (ng x) (dg (x.natAbs - y.natAbs))), v88]) rfl rfl f96 rfl Tryz.sizeOf25 (nbl rfl) (one_cons rfl (one_cons f97.one one_nil)) (fun w92 sw92 fw92 cw92 => ?_)
 have zw92 := cw92.size
 have gw92 : Blk w92 b6 [.bool (nz (ng x) (dg (x.natAbs - y.natAbs))), v88] 25 := fw92
 have q99 := Chg.step (l := b6) (h := (b6 + 1)) (Chg.zero (l := b6) (h := (b6 + 1)) ((d85.t c88).t c90)) cw92 (by omega)
 have s98 : Chg b6 (b6 + 1) w44 w92 := q99
 refine wl_nil ?_
 refine dx_next s98 ?_
 refine dx_done (by kernel_rfl) ?_
 refine q_n (k80 _ _ ?_)
 refine sx_retc ?_
 refine sx_ret1 Tryz.results44 ⟨_, rfl, gw92.loadA (vs := [.bool (nz (ng x) (dg (x.natAbs - y.natAbs))), v88]) (look_lit rfl) Tryz.isAgg25 Tryz.sizeOf25⟩ ?_
 have hh := sub_sg h46 hge
 rw [← hh.1, ← hh.2]
 have f100 := f97.chg cw92 (by omega)
 have q101 := Chg.step (l := 0) (h := 0) (Chg.zero (l := 0) (h := 0) ((((((cb2.t cb4).t cb6).t c44).t d85).t c88).t c90)) cw92 (by omega)
 exact ⟨_, rfl, (Own.mono f100 (by omega) (by omega)), q101⟩

theorem c_intSign {w : World} {va : Value} {lva uva : Nat} {x : Int} (hva : Sl w lva uva va (dg x.natAbs)) (hbx : (dg x.natAbs).length ≤ 1000) :
  Ret Tryz.prog 79 [.agg #[.bool (ng x), va]] w fun v w' => v = .int .i64 ((x).sign) ∧ Chg 0 0 w w' := by
 have hva0 := hva.fit
 refine sx_enter Tryz.func79 rfl Tryz.ntmps79 (nbl rfl) ?_
 refine sx_seq fun K1 k1 => sx_region ?_
 refine sx_box [.bool (ng x), va] rfl rfl rfl (fun b2 w3 eb2 sb2 fb2 cb2 => ?_)
 have zw3 := cb2.size
 refine av rfl rfl (wl_nil (q_n (k1 _ _ ?_)))
 refine sx_seq fun K4 k4 => ?_
 refine sx_block ?_
 refine sx_seq fun K5 k5 => sx_region ?_
 refine sp rfl (px_field rfl xfld25x1) ?_
 refine sp rfl (px_load rfl (fb2.load1 rfl Tryz.isAgg23)) ?_
 have f6 := hva0.ext cb2
 refine sp rfl (px_len rfl Tryz.underlying23 f6) ?_
 refine sp rfl (px_eq rfl rfl) ?_
 refine av rfl rfl (wl_nil (q_n (k5 _ _ ?_)))
 refine sx_condP rfl (fun h101 => ?_) (fun h101 => ?_)
 ·
  refine sx_seq fun K7 k7 => sx_region ?_
  refine av rfl rfl (wl_nil (q_n (k7 _ _ ?_)))
  refine sx_retc ?_
  refine q_br (q_r (sx_ret1 Tryz.results79 rfl ?_))
  exact ⟨(by rw [sign_z (by omega)]), cb2⟩
 refine sx_seq fun K8 k8 => sx_region ?_
 refine sp rfl (px_field rfl xfld25x0) ?_
 refine sp rfl (px_load rfl (fb2.load1 rfl Tryz.isAgg4)) ?_
 refine av rfl rfl (wl_nil (q_n (k8 _ _ ?_)))
 refine sx_condB rfl (fun h103 => ?_) (fun h103 => ?_)
 ·
  refine sx_seq fun K9 k9 => sx_region ?_
  refine av rfl rfl (wl_nil (q_n (k9 _ _ ?_)))
  refine sx_retc ?_
  refine q_br (q_r (sx_ret1 Tryz.results79 rfl ?_))
  exact ⟨(by rw [sign_n h103]), cb2⟩
 refine sx_skip ?_
 refine q_bn (q_n (k4 _ _ ?_))
 refine sx_seq fun K10 k10 => sx_region ?_
 refine av rfl rfl (wl_nil (q_n (k10 _ _ ?_)))
 refine sx_retc ?_
 refine sx_ret1 Tryz.results79 rfl ?_
 exact ⟨(by rw [sign_p (by omega) h103]), cb2⟩

theorem c_intCmp {w : World} {va : Value} {lva uva : Nat} {x : Int} {vb : Value} {lvb uvb : Nat} {y : Int} (hva : Sl w lva uva va (dg x.natAbs)) (hvb : Sl w lvb uvb vb (dg y.natAbs)) (hbx : (dg x.natAbs).length ≤ 900) (hby : (dg y.natAbs).length ≤ 900) :
  Ret Tryz.prog 42 [.agg #[.bool (ng x), va], .agg #[.bool (ng y), vb]] w fun v w' => v = .int .i64 (cmpI x y) ∧ Chg 0 0 w w' := by
 have hva0 := hva.fit
 have hvb0 := hvb.fit
 refine sx_enter Tryz.func42 rfl Tryz.ntmps42 (nbl rfl) ?_
 refine sx_seq fun K1 k1 => sx_region ?_
 refine sx_box [.bool (ng x), va] rfl rfl rfl (fun b2 w3 eb2 sb2 fb2 cb2 => ?_)
 have zw3 := cb2.size
 refine sx_box [.bool (ng y), vb] rfl rfl rfl (fun b4 w5 eb4 sb4 fb4 cb4 => ?_)
 have zw5 := cb4.size
 refine av rfl rfl (wl_nil (q_n (k1 _ _ ?_)))
 refine sx_seq fun K6 k6 => ?_
 have f7 := fb2.ext cb4
 have f8 := hva0.ext cb2
 have f9 := f8.ext cb4
 have f10 := hvb0.ext cb2
 have f11 := f10.ext cb4
 refine dx_region (fun w' => Chg 0 0 w5 w') (by kernel_rfl) (Chg.zero (Chg.drew _)) ?_
 have d12 := Chg.drew w5
 have s12 : Chg 0 0 w5 (World.drew w5) := Chg.zero (Chg.drew _)
 have y12 : (World.drew w5).heap.size = w5.heap.size := rfl
 generalize World.drew w5 = w12 at *
 have zw12 := d12.size
 refine dt 0 rfl rfl rfl rfl s12 (fun _ hS => px_load rfl ((f7.chg hS (by omega)).loadA (vs := [.bool (ng x), va]) (look_lit rfl) Tryz.isAgg25 Tryz.sizeOf25)) ?_
 refine dt 1 rfl rfl rfl rfl s12 (fun _ hS => px_load rfl ((fb4.chg hS (by omega)).loadA (vs := [.bool (ng y), vb]) (look_lit rfl) Tryz.isAgg25 Tryz.sizeOf25)) ?_
 refine dx_eff 2 rfl (by kernel_rfl) ?_
 have f13 := f11.ext d12
 refine sx_call rfl rfl Tryz.call46 (c_intNeg f13 (by omega)) (fun v14 w14 p14 => ?_)
 obtain ⟨s14, rfl, os_14, c14⟩ := p14
 have zw14 := c14.size
 have s15 : Chg 0 0 w5 w14 := (d12.t c14)
 refine wl_nil ?_
 refine dx_next s15 ?_
 refine dx_eff 3 rfl (by kernel_rfl) ?_
 have f17 := (f9.ext d12).ext c14
 refine sx_call rfl rfl Tryz.call44 (c_intAdd f17 os_14.sv (by omega) (by rw [Int.natAbs_neg]; omega)) (fun v18 w18 p18 => ?_)
 obtain ⟨s18, rfl, os_18, c18⟩ := p18
 have zw18 := c18.size
 have s19 : Chg 0 0 w5 w18 := ((d12.t c14).t c18)
 refine wl_nil ?_
 refine dx_next s19 ?_
 refine dx_eff 4 rfl (by kernel_rfl) ?_
 refine sx_call rfl rfl Tryz.call79 (c_intSign os_18.sv (by have h := len_addI x (-y); rw [Int.natAbs_neg] at h; omega)) (fun v20 w20 p20 => ?_)
 obtain ⟨rfl, c20⟩ := p20
 have zw20 := c20.size
 have s21 : Chg 0 0 w5 w20 := (((d12.t c14).t c18).t c20)
 refine wl_nil ?_
 refine dx_next s21 ?_
 refine dt 5 rfl rfl rfl rfl s21 (fun _ hS => px_assign rfl) ?_
 refine dx_done (by kernel_rfl) ?_
 refine q_n (k6 _ _ ?_)
 refine sx_retc ?_
 refine sx_ret1 Tryz.results42 rfl ?_
 exact ⟨(by rw [cmpI_sign]), (((((cb2.t cb4).t d12).t c14).t c18).t c20)⟩

theorem c_iDecCmp {w : World} {n1 : Bool} {v1 : Value} {lv1 uv1 : Nat} {z1 : List Int} {p1 : Int} {n2 : Bool} {v2 : Value} {lv2 uv2 : Nat} {z2 : List Int} {p2 : Int} (hv1 : Sl w lv1 uv1 v1 (z1)) (hv2 : Sl w lv2 uv2 v2 (z2)) (h63 : z1.length ≤ 4611686018427387904 ∧ z2.length ≤ 4611686018427387904) :
  Ret Tryz.prog 10 [.agg #[.bool n1, v1, .int .i64 p1], .agg #[.bool n2, v2, .int .i64 p2]] w fun v w' => v = .int .i64 (dCmp n1 z1 p1 n2 z2 p2) ∧ Chg 0 0 w w' := by
 have hv10 := hv1.fit
 have hv20 := hv2.fit
 refine sx_enter Tryz.func10 rfl Tryz.ntmps10 (nbl rfl) ?_
 refine sx_seq fun K1 k1 => sx_region ?_
 refine sx_box [.bool n1, v1, .int .i64 p1] rfl rfl rfl (fun b2 w3 eb2 sb2 fb2 cb2 => ?_)
 have zw3 := cb2.size
 refine sx_box [.bool n2, v2, .int .i64 p2] rfl rfl rfl (fun b4 w5 eb4 sb4 fb4 cb4 => ?_)
 have zw5 := cb4.size
 refine av rfl rfl (wl_nil (q_n (k1 _ _ ?_)))
 refine sx_seq fun K6 k6 => ?_
 refine sx_seq fun K7 k7 => sx_region ?_
 have f8 := fb2.ext cb4
 refine sp rfl (px_load rfl (f8.loadA (vs := [.bool n1, v1, .int .i64 p1]) (look_lit rfl) Tryz.isAgg27 Tryz.sizeOf27)) ?_
 have f9 := hv10.ext cb2
 have f10 := f9.ext cb4
 refine sx_call rfl rfl Tryz.call34 (c_iDecOk f10 (by omega)) (fun v11 w11 p11 => ?_)
 obtain ⟨rfl, c11⟩ := p11
 have zw11 := c11.size
 refine sp rfl (px_notP rfl) ?_
 refine mv rfl rfl ?_
 refine sx_tmpP (t := 9) rfl (fun h138 => ?_) (fun h138 => ?_)
 ·
  refine sx_guardF rfl rfl rfl rfl rfl rfl ?_
  refine sx_guardF rfl rfl rfl rfl rfl rfl ?_
  refine sx_guardF rfl rfl rfl rfl rfl rfl ?_
  refine sp rfl (px_pick rfl rfl) ?_
  refine wl_nil (q_n (k7 _ _ ?_))
  refine sx_condT rfl ?_
  refine sx_seq fun K12 k12 => sx_region ?_
  refine av rfl rfl (wl_nil (q_n (k12 _ _ ?_)))
  refine sx_retc ?_
  refine q_r (sx_ret1 Tryz.results10 rfl ?_)
  rw [dCmp_no (by grind)]
  exact ⟨rfl, ((cb2.t cb4).t c11)⟩
 refine sx_guardT rfl rfl rfl ?_
 have f13 := fb4.ext c11
 refine sp rfl (px_load rfl (f13.loadA (vs := [.bool n2, v2, .int .i64 p2]) (look_lit rfl) Tryz.isAgg27 Tryz.sizeOf27)) ?_
 refine sx_guardT rfl rfl rfl ?_
 have f14 := hv20.ext cb2
 have f15 := f14.ext cb4
 have f16 := f15.ext c11
 refine sx_call rfl rfl Tryz.call34 (c_iDecOk f16 (by omega)) (fun v17 w17 p17 => ?_)
 obtain ⟨rfl, c17⟩ := p17
 have zw17 := c17.size
 refine sx_guardT rfl rfl rfl ?_
 refine sp rfl (px_notP rfl) ?_
 refine sp rfl (px_pick rfl rfl) ?_
 refine wl_nil (q_n (k7 _ _ ?_))
 refine sx_condP rfl (fun h138x1 => ?_) (fun h138x1 => ?_)
 ·
  refine sx_seq fun K18 k18 => sx_region ?_
  refine av rfl rfl (wl_nil (q_n (k18 _ _ ?_)))
  refine sx_retc ?_
  refine q_r (sx_ret1 Tryz.results10 rfl ?_)
  rw [dCmp_no (by grind)]
  exact ⟨rfl, (((cb2.t cb4).t c11).t c17)⟩
 have hD1 := Decidable.not_not.1 h138
 have hD2 := Decidable.not_not.1 h138x1
 obtain ⟨x1, rfl, rfl, hx1⟩ := hD1.int
 obtain ⟨x2, rfl, rfl, hx2⟩ := hD2.int
 refine sx_skip ?_
 refine q_n (k6 _ _ ?_)
 refine sx_seq fun K19 k19 => sx_region ?_
 refine sp rfl (px_field rfl xfld27x1) ?_
 have f21 := (f8.ext c11).ext c17
 refine sp rfl (px_load rfl (f21.load1 rfl Tryz.isAgg3)) ?_
 refine sp rfl (px_field rfl xfld27x1) ?_
 have f22 := f13.ext c17
 refine sp rfl (px_load rfl (f22.load1 rfl Tryz.isAgg3)) ?_
 refine sp rfl (px_max rfl rfl) ?_
 refine sx_call rfl rfl Tryz.call39 (c_scaled) (fun v23 w23 p23 => ?_)
 obtain ⟨b23, rfl, xb_23, hb23, c23⟩ := p23
 have zw23 := c23.size
 refine av rfl rfl (wl_nil (q_n (k19 _ _ ?_)))
 refine sx_sub (Sub.c 2 rfl (.c 3 rfl (.c 4 rfl (.c 5 rfl .nil)))) ?_
 refine sx_seq fun K24 k24 => ?_
 have f25 := f21.ext c23
 have f26 := f22.ext c23
 refine dx_region (fun w' => Chg 0 0 w23 w') (by kernel_rfl) (Chg.zero (Chg.drew _)) ?_
 have d32 := Chg.drew w23
 have s32 : Chg 0 0 w23 (World.drew w23) := Chg.zero (Chg.drew _)
 have y32 : (World.drew w23).heap.size = w23.heap.size := rfl
 generalize World.drew w23 = w32 at *
 have zw32 := d32.size
 refine dt 0 rfl rfl rfl rfl s32 (fun _ hS => px_move rfl) ?_
 refine dt 1 rfl rfl rfl rfl s32 (fun _ hS => px_load rfl ((f25.chg hS (by omega)).loadA (vs := [.bool (ng x1), v1, .int .i64 p1]) (look_lit rfl) Tryz.isAgg27 Tryz.sizeOf27)) ?_
 refine dt 3 rfl rfl rfl rfl s32 (fun _ hS => px_move rfl) ?_
 refine dt 4 rfl rfl rfl rfl s32 (fun _ hS => px_load rfl ((f26.chg hS (by omega)).loadA (vs := [.bool (ng x2), v2, .int .i64 p2]) (look_lit rfl) Tryz.isAgg27 Tryz.sizeOf27)) ?_
 refine dx_eff 2 rfl (by kernel_rfl) ?_
 have f33 := (((f10.ext c11).ext c17).ext c23).ext d32
 have f34 := xb_23.ext d32
 refine sx_callV rfl rfl rfl Tryz.call73 (c_scaled1 f33 f34 (by omega) (by omega)) (fun v35 w35 p35 => ?_)
 obtain ⟨s35, rfl, os_35, c35⟩ := p35
 have zw35 := c35.size
 have s36 : Chg 0 0 w23 w35 := (d32.t c35)
 refine wl_nil ?_
 refine dx_next s36 ?_
 refine dx_eff 5 rfl (by kernel_rfl) ?_
 have f38 := (((f16.ext c17).ext c23).ext d32).ext c35
 have f39 := f34.ext c35
 refine sx_callV rfl rfl rfl Tryz.call73 (c_scaled1 f38 f39 (by omega) (by omega)) (fun v40 w40 p40 => ?_)
 obtain ⟨s40, rfl, os_40, c40⟩ := p40
 have zw40 := c40.size
 have s41 : Chg 0 0 w23 w40 := ((d32.t c35).t c40)
 refine wl_nil ?_
 refine dx_next s41 ?_
 refine dx_eff 6 rfl (by kernel_rfl) ?_
 have f42 := os_35.ext c40
 refine sx_call rfl rfl Tryz.call42 (c_intCmp f42.sv os_40.sv (by have h1 := len_ten (k := max p1 p2 - p1) (by omega); have h2 := len_ten (k := max p1 p2 - p2) (by omega); have h3 := len_mulI x1 (tenI (max p1 p2 - p1)); have h4 := len_mulI x2 (tenI (max p1 p2 - p2)); first | omega | (have h5 := len_addI (x1 * tenI (max p1 p2 - p1)) (x2 * tenI (max p1 p2 - p2)); omega)) (by have h1 := len_ten (k := max p1 p2 - p1) (by omega); have h2 := len_ten (k := max p1 p2 - p2) (by omega); have h3 := len_mulI x1 (tenI (max p1 p2 - p1)); have h4 := len_mulI x2 (tenI (max p1 p2 - p2)); first | omega | (have h5 := len_addI (x1 * tenI (max p1 p2 - p1)) (x2 * tenI (max p1 p2 - p2)); omega))) (fun v43 w43 p43 => ?_)
 obtain ⟨rfl, c43⟩ := p43
 have zw43 := c43.size
 have s44 : Chg 0 0 w23 w43 := (((d32.t c35).t c40).t c43)
 refine wl_nil ?_
 refine dx_next s44 ?_
 refine dt 7 rfl rfl rfl rfl s44 (fun _ hS => px_assign rfl) ?_
 refine dx_done (by kernel_rfl) ?_
 refine q_n (k24 _ _ ?_)
 refine sx_retc ?_
 refine sx_ret1 Tryz.results10 rfl ?_
 rw [dCmp_ok hD1 hD2]
 exact ⟨rfl, ((((((((cb2.t cb4).t c11).t c17).t c23).t d32).t c35).t c40).t c43)⟩

theorem c_natGcd {w : World} {va : Value} {lva uva : Nat} {m : Nat} {vb : Value} {lvb uvb : Nat} {n : Nat} (hva : Sl w lva uva va (dg m)) (hvb : Sl w lvb uvb vb (dg n)) (hbm : (dg m).length ≤ 400) (hbn : (dg n).length ≤ 400) :
  Ret Tryz.prog 80 [va, vb] w fun v w' => ∃ s, v = s ∧ OwnI w' w.heap.size w'.heap.size s intT (dg (Nat.gcd m n)) ∧ Chg 0 0 w w' := by
 have hva0 := hva.fit
 have hvb0 := hvb.fit
 refine sx_enter Tryz.func80 rfl Tryz.ntmps80 (nbl rfl) ?_
 refine sx_seq fun K1 k1 => sx_region ?_
 refine av rfl rfl (wl_nil (q_n (k1 _ _ ?_)))
 refine sx_seq fun K2 k2 => ?_
 refine sx_block ?_
 refine sx_loop (fun mm aa w' => ∃ (xa : Value) (xb : Value) (m2 : Nat) (n2 : Nat), Agr 20 [(0, xa), (1, xb)] aa ∧ Chg 0 0 w w' ∧ Sv w' 0 w'.heap.size xa ((dg m2).length) 1 ((dg m2).map (Value.int .i64)) ∧ Sv w' 0 w'.heap.size xb ((dg n2).length) 1 ((dg n2).map (Value.int .i64)) ∧ (mm = n2) ∧ (Nat.gcd m2 n2 = Nat.gcd m n) ∧ ((dg m2).length ≤ 400 ∧ (dg n2).length ≤ 400)) (_) (fun a ha => ⟨va, vb, m, n, ha.sub (Sub.c 0 rfl (.c 1 rfl .nil)), Chg.refl _ _ _, (hva0.mono (by omega) (by omega)), (hvb0.mono (by omega) (by omega)), rfl, rfl, by omega⟩) ?_
 rintro mm aa wl3 ⟨xa, xb, m2, n2, hAwl3, cwl3, hs_xa, hs_xb, hm, hg, hl2⟩
 refine (show cw Tryz.prog 20 _ _ _ wl3 from ?_) aa hAwl3
 clear hAwl3
 have zwl3 := cwl3.size
 refine sx_seq fun K4 k4 => ?_
 refine sx_seq fun K5 k5 => sx_region ?_
 refine mv rfl rfl (sp rfl (px_len rfl Tryz.underlying23 hs_xb) ?_)
 refine sp rfl (px_gt rfl rfl) ?_
 refine wl_nil (q_n (k5 _ _ ?_))
 refine sx_condP rfl (fun h91 => ?_) (fun h91 => ?_)
 ·
  have hn0 : 0 < n2 := len_pos.1 (by omega)
  refine sx_skip ?_
  refine q_n (k4 _ _ ?_)
  refine sx_block ?_
  refine sx_seq fun K6 k6 => sx_region ?_
  refine mv rfl rfl (mv rfl rfl (sx_call rfl rfl Tryz.call40 (c_natDiv hs_xa hs_xb (by omega) (by omega) (by omega)) (fun v7 w7 p7 => ?_)))
  obtain ⟨s7, t7, rfl, os_7, ot_7, c7⟩ := p7
  have zw7 := c7.size
  refine mv rfl rfl (sp rfl (px_ex2 rfl rfl) ?_)
  refine sp rfl (px_ex2 rfl rfl) ?_
  refine av rfl rfl (av rfl rfl (wl_nil (q_n (k6 _ _ ?_))))
  refine sx_region ?_
  refine mv rfl rfl (mv rfl rfl (av rfl rfl (av rfl rfl (wl_nil ?_))))
  have f8 := hs_xb.ext c7
  have hml := Nat.mod_lt m2 hn0
  have hll := len_mod (m := m2) hn0
  exact q_bn (fun a ha => ⟨_, by omega, xb, t7, n2, (m2 % n2), ha.sub (Sub.c 0 rfl (.c 1 rfl .nil)), (cwl3.t c7), (f8.mono (by omega) (by omega)), (ot_7.sv.mono (by omega) (by omega)), rfl, gcd_next.trans hg, by omega⟩)
 refine sx_exit ?_
 refine q_e (q_e (q_bx (q_n (k2 _ _ ?_))))
 refine sx_seq fun K9 k9 => sx_region ?_
 refine mv rfl rfl (sx_call rfl rfl Tryz.call75 (c_natCopy hs_xa (by omega)) (fun v10 w10 p10 => ?_))
 obtain ⟨s10, rfl, os_10, c10⟩ := p10
 have zw10 := c10.size
 refine av rfl rfl (wl_nil (q_n (k9 _ _ ?_)))
 refine sx_retc ?_
 refine sx_ret1 Tryz.results80 rfl ?_
 have e0 : n2 = 0 := len_zero.1 (by omega)
 subst e0
 rw [Nat.gcd_zero_right] at hg
 rw [← hg]
 exact ⟨_, rfl, (Own.mono os_10 (by omega) (by omega)), (cwl3.t c10)⟩

theorem c_reduce {w : World} {n : Bool} {va : Value} {lva uva : Nat} {m : Nat} {vb : Value} {lvb uvb : Nat} {d : Nat} (hva : Sl w lva uva va (dg m)) (hvb : Sl w lvb uvb vb (dg d)) (hbm : (dg m).length ≤ 400) (hbd : (dg d).length ≤ 400) (hd0 : 0 < d) :
  Ret Tryz.prog 43 [.agg #[.bool n, va], vb] w fun v w' => ∃ s t ls us lt ut, v = .tuple #[.agg #[.bool ((rR (sgI n m) d).1), s, t], .bool ((rR (sgI n m) d).2.2.2)] ∧ OwnI w' (ls) (us) s intT ((rR (sgI n m) d).2.1) ∧ OwnI w' (lt) (ut) t intT ((rR (sgI n m) d).2.2.1) ∧ (w.heap.size ≤ ls ∧ us ≤ w'.heap.size ∧ w.heap.size ≤ lt ∧ ut ≤ w'.heap.size ∧ (us ≤ lt ∨ ut ≤ ls)) ∧ ((rR (sgI n m) d).2.1.length ≤ 18 ∧ (rR (sgI n m) d).2.2.1.length ≤ 18) ∧ Chg 0 0 w w' := by
 have hva0 := hva.fit
 have hvb0 := hvb.fit
 have hgp := gcd_pos_r (m := m) hd0
 have lg := gcd_le_left (m := m) (n := d) (k := max (dg m).length (dg d).length) (by omega) (by omega)
 have lq1 := len_div m (Nat.gcd m d)
 have lq2 := len_div d (Nat.gcd m d)
 refine sx_enter Tryz.func43 rfl Tryz.ntmps43 (nbl rfl) ?_
 refine sx_seq fun K1 k1 => sx_region ?_
 refine sx_box [.bool n, va] rfl rfl rfl (fun b2 w3 eb2 sb2 fb2 cb2 => ?_)
 have zw3 := cb2.size
 refine sx_alloc [.bool false, (.slice none 0 0), (.slice none 0 0)] rfl Tryz.zeroValue37 rfl (fun b4 w5 eb4 sb4 fb4 cb4 => ?_)
 have zw5 := cb4.size
 refine av rfl rfl (wl_nil (q_n (k1 _ _ ?_)))
 refine sx_seq fun K6 k6 => sx_region ?_
 refine sp rfl (px_field rfl xfld25x1) ?_
 have f7 := fb2.ext cb4
 refine sp rfl (px_load rfl (f7.load1 rfl Tryz.isAgg23)) ?_
 refine mv rfl rfl ?_
 have f8 := hva0.ext cb2
 have f9 := f8.ext cb4
 have f10 := hvb0.ext cb2
 have f11 := f10.ext cb4
 refine sx_call rfl rfl Tryz.call80 (c_natGcd f9 f11 (by omega) (by omega)) (fun v12 w12 p12 => ?_)
 obtain ⟨s12, rfl, os_12, c12⟩ := p12
 have zw12 := c12.size
 refine av rfl rfl (wl_nil (q_n (k6 _ _ ?_)))
 refine sx_seq fun K13 k13 => sx_region ?_
 refine sp rfl (px_field rfl xfld25x1) ?_
 have f14 := f7.ext c12
 refine sp rfl (px_load rfl (f14.load1 rfl Tryz.isAgg23)) ?_
 refine mv rfl rfl ?_
 have f15 := f9.ext c12
 refine sx_call rfl rfl Tryz.call40 (c_natDiv f15 os_12.sv (by omega) (by omega) (hgp)) (fun v16 w16 p16 => ?_)
 obtain ⟨s16, t16, rfl, os_16, ot_16, c16⟩ := p16
 have zw16 := c16.size
 refine mv rfl rfl (sp rfl (px_ex2 rfl rfl) ?_)
 refine sp rfl (px_ex2 rfl rfl) ?_
 refine av rfl rfl (av rfl rfl (wl_nil (q_n (k13 _ _ ?_))))
 refine sx_sub (Sub.c 1 rfl (.c 2 rfl (.c 4 rfl (.c 5 rfl (.c 6 rfl (.c 7 rfl .nil)))))) ?_
 refine sx_seq fun K17 k17 => sx_region ?_
 refine mv rfl rfl (mv rfl rfl ?_)
 have f19 := (f11.ext c12).ext c16
 have f20 := os_12.ext c16
 refine sx_call rfl rfl Tryz.call40 (c_natDiv f19 f20.sv (by omega) (by omega) (hgp)) (fun v21 w21 p21 => ?_)
 obtain ⟨s21, t21, rfl, os_21, ot_21, c21⟩ := p21
 have zw21 := c21.size
 refine mv rfl rfl (sp rfl (px_ex2 rfl rfl) ?_)
 refine sp rfl (px_ex2 rfl rfl) ?_
 refine av rfl rfl (av rfl rfl (wl_nil (q_n (k17 _ _ ?_))))
 refine sx_seq fun K22 k22 => ?_
 refine sx_seq fun K23 k23 => sx_region ?_
 refine mv rfl rfl ?_
 have f24 := os_16.ext c21
 refine sp rfl (px_len rfl Tryz.underlying23 f24.sv) ?_
 refine sp rfl (px_gt rfl rfl) ?_
 refine mv rfl rfl ?_
 refine sx_tmpP (t := 31) rfl (fun h26 => ?_) (fun h26 => ?_)
 ·
  refine sx_guardF rfl rfl rfl rfl rfl rfl ?_
  refine sx_guardF rfl rfl rfl rfl rfl rfl ?_
  refine sx_guardF rfl rfl rfl rfl rfl rfl ?_
  refine sp rfl (px_pick rfl rfl) ?_
  refine wl_nil (q_n (k23 _ _ ?_))
  refine sx_sub (Sub.c 2 rfl (.c 4 rfl (.c 5 rfl (.c 7 rfl (.c 9 rfl (.c 35 rfl .nil)))))) ?_
  refine sx_condT rfl ?_
  refine sx_seq fun K25 k25 => sx_region ?_
  refine sp rfl (px_build rfl (xbld37x  _)) ?_
  have f29 := ((fb4.ext c12).ext c16).ext c21
  refine sx_store (vs := [.bool false, (.slice none 0 0), (.slice none 0 0)]) rfl rfl f29 rfl Tryz.sizeOf37 (nbl rfl) (o3 rfl rfl rfl) (fun w26 sw26 fw26 cw26 => ?_)
  have zw26 := cw26.size
  have gw26 : Blk w26 b4 [.bool false, (.slice none 0 0), (.slice none 0 0)] 37 := fw26
  refine av rfl rfl (wl_nil (q_n (k25 _ _ ?_)))
  refine sx_retc ?_
  refine q_r (sx_ret2 Tryz.results43 ⟨_, rfl, gw26.loadA (vs := [.bool false, (.slice none 0 0), (.slice none 0 0)]) (look_lit rfl) Tryz.isAgg37 Tryz.sizeOf37⟩ rfl ?_)
  rw [rR_no (fun h => by omega)]
  have q30 := Chg.step (l := 0) (h := 0) (Chg.zero (l := 0) (h := 0) ((((cb2.t cb4).t c12).t c16).t c21)) cw26 (by omega)
  exact ⟨_, _, w.heap.size, w.heap.size, w.heap.size, w.heap.size, rfl, Own.nil _ _ _ _ _, Own.nil _ _ _ _ _, by omega, ⟨by simp [noR], by simp [noR]⟩, q30⟩
 refine sx_guardT rfl rfl rfl ?_
 refine mv rfl rfl ?_
 refine sx_guardT rfl rfl rfl ?_
 refine sp rfl (px_len rfl Tryz.underlying23 os_21.sv) ?_
 refine sx_guardT rfl rfl rfl ?_
 refine sp rfl (px_gt rfl rfl) ?_
 refine sp rfl (px_pick rfl rfl) ?_
 refine wl_nil (q_n (k23 _ _ ?_))
 refine sx_sub (Sub.c 2 rfl (.c 4 rfl (.c 5 rfl (.c 7 rfl (.c 9 rfl (.c 35 rfl .nil)))))) ?_
 refine sx_condP rfl (fun h26x1 => ?_) (fun h26x1 => ?_)
 ·
  refine sx_seq fun K31 k31 => sx_region ?_
  refine sp rfl (px_build rfl (xbld37x  _)) ?_
  have f35 := ((fb4.ext c12).ext c16).ext c21
  refine sx_store (vs := [.bool false, (.slice none 0 0), (.slice none 0 0)]) rfl rfl f35 rfl Tryz.sizeOf37 (nbl rfl) (o3 rfl rfl rfl) (fun w32 sw32 fw32 cw32 => ?_)
  have zw32 := cw32.size
  have gw32 : Blk w32 b4 [.bool false, (.slice none 0 0), (.slice none 0 0)] 37 := fw32
  refine av rfl rfl (wl_nil (q_n (k31 _ _ ?_)))
  refine sx_retc ?_
  refine q_r (sx_ret2 Tryz.results43 ⟨_, rfl, gw32.loadA (vs := [.bool false, (.slice none 0 0), (.slice none 0 0)]) (look_lit rfl) Tryz.isAgg37 Tryz.sizeOf37⟩ rfl ?_)
  rw [rR_no (fun h => by omega)]
  have q36 := Chg.step (l := 0) (h := 0) (Chg.zero (l := 0) (h := 0) ((((cb2.t cb4).t c12).t c16).t c21)) cw32 (by omega)
  exact ⟨_, _, w.heap.size, w.heap.size, w.heap.size, w.heap.size, rfl, Own.nil _ _ _ _ _, Own.nil _ _ _ _ _, by omega, ⟨by simp [noR], by simp [noR]⟩, q36⟩
 refine sx_skip ?_
 refine q_n (k22 _ _ ?_)
 refine sx_seq fun K37 k37 => sx_region ?_
 refine sp rfl (px_field rfl xfld25x0) ?_
 have f39 := (f14.ext c16).ext c21
 refine sp rfl (px_load rfl (f39.load1 rfl Tryz.isAgg4)) ?_
 refine mv rfl rfl (sx_call rfl rfl Tryz.call33 (c_signed f24.sv (by omega)) (fun v40 w40 p40 => ?_))
 obtain ⟨rfl, c40⟩ := p40
 have zw40 := c40.size
 refine mv rfl rfl ?_
 have f41 := os_21.ext c40
 refine sp rfl (px_build rfl (xbld37x0x1 f41.one _)) ?_
 have f46 := (((fb4.ext c12).ext c16).ext c21).ext c40
 have f47 := f24.ext c40
 refine sx_store (vs := [.bool (nz n (dg (m / (Nat.gcd m d)))), s16, s21]) rfl rfl f46 rfl Tryz.sizeOf37 (nbl rfl) (one_cons rfl (one_cons f47.one (one_cons f41.one one_nil))) (fun w42 sw42 fw42 cw42 => ?_)
 have zw42 := cw42.size
 have gw42 : Blk w42 b4 [.bool (nz n (dg (m / (Nat.gcd m d)))), s16, s21] 37 := fw42
 refine av rfl rfl (wl_nil (q_n (k37 _ _ ?_)))
 refine sx_retc ?_
 refine sx_ret2 Tryz.results43 ⟨_, rfl, gw42.loadA (vs := [.bool (nz n (dg (m / (Nat.gcd m d)))), s16, s21]) (look_lit rfl) Tryz.isAgg37 Tryz.sizeOf37⟩ rfl ?_
 have hrl := rR_len (x := sgI n m) (d := d)
 rw [rR_ok hd0 (by omega) (by omega)] at hrl ⊢
 have q48 := Chg.step (l := 0) (h := 0) (Chg.zero (l := 0) (h := 0) (((((cb2.t cb4).t c12).t c16).t c21).t c40)) cw42 (by omega)
 have f49 := f47.chg cw42 (by omega)
 have f50 := f41.chg cw42 (by omega)
 exact ⟨_, _, _, _, _, _, rfl, f49, f50, by omega, hrl, q48⟩

theorem c_iDecRat {w : World} {n1 : Bool} {v1 : Value} {lv1 uv1 : Nat} {z1 : List Int} {p1 : Int} (hv1 : Sl w lv1 uv1 v1 (z1)) (h63 : z1.length ≤ 4611686018427387904) :
  Ret Tryz.prog 11 [.agg #[.bool n1, v1, .int .i64 p1]] w fun v w' => ∃ s t ls us lt ut, v = .agg #[.bool ((dRat n1 z1 p1).1), s, t] ∧ OwnI w' (ls) (us) s intT ((dRat n1 z1 p1).2.1) ∧ OwnI w' (lt) (ut) t intT ((dRat n1 z1 p1).2.2.1) ∧ (w.heap.size ≤ ls ∧ us ≤ w'.heap.size ∧ w.heap.size ≤ lt ∧ ut ≤ w'.heap.size ∧ (us ≤ lt ∨ ut ≤ ls)) ∧ ((dRat n1 z1 p1).2.1.length ≤ 18 ∧ (dRat n1 z1 p1).2.2.1.length ≤ 18) ∧ Chg 0 0 w w' := by
 have hv10 := hv1.fit
 refine sx_enter Tryz.func11 rfl Tryz.ntmps11 (nbl rfl) ?_
 refine sx_seq fun K1 k1 => sx_region ?_
 refine sx_box [.bool n1, v1, .int .i64 p1] rfl rfl rfl (fun b2 w3 eb2 sb2 fb2 cb2 => ?_)
 have zw3 := cb2.size
 refine sx_alloc [.bool false, (.slice none 0 0), (.slice none 0 0)] rfl Tryz.zeroValue37 rfl (fun b4 w5 eb4 sb4 fb4 cb4 => ?_)
 have zw5 := cb4.size
 refine wl_nil (q_n (k1 _ _ ?_))
 refine sx_seq fun K6 k6 => ?_
 refine sx_seq fun K7 k7 => sx_region ?_
 have f8 := fb2.ext cb4
 refine sp rfl (px_load rfl (f8.loadA (vs := [.bool n1, v1, .int .i64 p1]) (look_lit rfl) Tryz.isAgg27 Tryz.sizeOf27)) ?_
 have f9 := hv10.ext cb2
 have f10 := f9.ext cb4
 refine sx_call rfl rfl Tryz.call34 (c_iDecOk f10 (by omega)) (fun v11 w11 p11 => ?_)
 obtain ⟨rfl, c11⟩ := p11
 have zw11 := c11.size
 refine sp rfl (px_notP rfl) ?_
 refine wl_nil (q_n (k7 _ _ ?_))
 refine sx_condP rfl (fun h30 => ?_) (fun h30 => ?_)
 ·
  refine sx_seq fun K12 k12 => sx_region ?_
  refine sp rfl (px_build rfl (xbld37x  _)) ?_
  have f14 := fb4.ext c11
  refine sx_store (vs := [.bool false, (.slice none 0 0), (.slice none 0 0)]) rfl rfl f14 rfl Tryz.sizeOf37 (nbl rfl) (o3 rfl rfl rfl) (fun w13 sw13 fw13 cw13 => ?_)
  have zw13 := cw13.size
  have gw13 : Blk w13 b4 [.bool false, (.slice none 0 0), (.slice none 0 0)] 37 := fw13
  refine wl_nil (q_n (k12 _ _ ?_))
  refine sx_retc ?_
  refine q_r (sx_ret1 Tryz.results11 ⟨_, rfl, gw13.loadA (vs := [.bool false, (.slice none 0 0), (.slice none 0 0)]) (look_lit rfl) Tryz.isAgg37 Tryz.sizeOf37⟩ ?_)
  rw [dRat_no h30]
  have q15 := Chg.step (l := 0) (h := 0) (Chg.zero (l := 0) (h := 0) ((cb2.t cb4).t c11)) cw13 (by omega)
  exact ⟨_, _, w.heap.size, w.heap.size, w.heap.size, w.heap.size, rfl, Own.nil _ _ _ _ _, Own.nil _ _ _ _ _, by omega, ⟨by simp [noR], by simp [noR]⟩, q15⟩
 have hD := Decidable.not_not.1 h30
 obtain ⟨x1, rfl, rfl, hx1⟩ := hD.int
 have ltn := ten_len' (k := p1) (by omega)
 refine sx_skip ?_
 refine q_n (k6 _ _ ?_)
 refine sx_seq fun K16 k16 => ?_
 refine sx_cut k16 (fun fr w' => ∃ (gb17x0 : Nat) (gs17x1 : Value) (gl17x1 : Nat) (gu17x1 : Nat) (gs17x2 : Value) (gl17x2 : Nat) (gu17x2 : Nat), fr = [(2, .pointer (some ⟨b4, 0, none⟩)), (3, .pointer (some ⟨gb17x0, 0, none⟩))] ∧ Chg 0 0 w11 w' ∧ (Blk w' gb17x0 [.bool ((rR (sgI (ng x1) x1.natAbs) (10 ^ (p1).toNat)).1), gs17x1, gs17x2] 37) ∧ (Own w' gl17x1 gu17x1 gs17x1 intT (((rR (sgI (ng x1) x1.natAbs) (10 ^ (p1).toNat)).2.1).length) 1 (((rR (sgI (ng x1) x1.natAbs) (10 ^ (p1).toNat)).2.1).map (Value.int .i64))) ∧ (Own w' gl17x2 gu17x2 gs17x2 intT (((rR (sgI (ng x1) x1.natAbs) (10 ^ (p1).toNat)).2.2.1).length) 1 (((rR (sgI (ng x1) x1.natAbs) (10 ^ (p1).toNat)).2.2.1).map (Value.int .i64))) ∧ (w11.heap.size ≤ gb17x0 ∧ gb17x0 + 1 ≤ w'.heap.size) ∧ (w11.heap.size ≤ gl17x1 ∧ gu17x1 ≤ w'.heap.size) ∧ (w11.heap.size ≤ gl17x2 ∧ gu17x2 ≤ w'.heap.size) ∧ (gu17x1 ≤ gb17x0 ∨ gb17x0 + 1 ≤ gl17x1) ∧ (gu17x2 ≤ gb17x0 ∨ gb17x0 + 1 ≤ gl17x2) ∧ (gu17x2 ≤ gl17x1 ∨ gu17x1 ≤ gl17x2)) (fun kc17 => ?_) ?_
 ·
  have f18 := f8.ext c11
  have f19 := fb4.ext c11
  have f20 := f10.ext c11
  refine dx_region (fun w' => Chg 0 0 w11 w') (by kernel_rfl) (Chg.zero (Chg.drew _)) ?_
  have d21 := Chg.drew w11
  have s21 : Chg 0 0 w11 (World.drew w11) := Chg.zero (Chg.drew _)
  have y21 : (World.drew w11).heap.size = w11.heap.size := rfl
  generalize World.drew w11 = w21 at *
  have zw21 := d21.size
  refine dt 0 rfl rfl rfl rfl s21 (fun _ hS => px_field rfl xfld27x0) ?_
  refine dt 1 rfl rfl rfl rfl s21 (fun _ hS => px_load rfl ((f18.chg hS (by omega)).loadA (vs := [.bool (ng x1), v1]) (look_lit rfl) Tryz.isAgg25 Tryz.sizeOf25)) ?_
  refine dt 2 rfl rfl rfl rfl s21 (fun _ hS => px_field rfl xfld27x1) ?_
  refine dt 3 rfl rfl rfl rfl s21 (fun _ hS => px_load rfl ((f18.chg hS (by omega)).load1 rfl Tryz.isAgg3)) ?_
  refine dx_eff2 4 9 rfl rfl (by kernel_rfl) ?_ ?_
  ·
   refine sx_call rfl rfl Tryz.call41 (c_natTen (by omega)) (fun v22 w22 p22 => ?_)
   obtain ⟨s22, rfl, os_22, c22⟩ := p22
   have zw22 := c22.size
   have s23 : Chg 0 0 w11 w22 := (d21.t c22)
   refine wl_nil ?_
   refine dx_next s23 ?_
   refine dx_eff2 5 9 rfl rfl (by kernel_rfl) ?_ ?_
   ·
    have f25 := (f20.ext d21).ext c22
    refine sx_call rfl rfl Tryz.call43 (c_reduce f25 os_22.sv (by omega) (by omega) (Nat.pow_pos (by decide))) (fun v26 w26 p26 => ?_)
    obtain ⟨s26, t26, ls26, us26, lt26, ut26, rfl, os_26, ot_26, hd26, hl26, c26⟩ := p26
    have zw26 := c26.size
    have s27 : Chg 0 0 w11 w26 := ((d21.t c22).t c26)
    refine wl_nil ?_
    refine dx_next s27 ?_
    refine dt 6 rfl rfl rfl rfl s27 (fun _ hS => px_move rfl) ?_
    refine dt 7 rfl rfl rfl rfl s27 (fun _ hS => px_ex2 rfl rfl) ?_
    refine dt 8 rfl rfl rfl rfl s27 (fun _ hS => px_ex2 rfl rfl) ?_
    refine dx_eff 9 rfl (by kernel_rfl) ?_
    refine sx_alloc [.bool false, (.slice none 0 0), (.slice none 0 0)] rfl Tryz.zeroValue37 rfl (fun b28 w29 eb28 sb28 fb28 cb28 => ?_)
    have zw29 := cb28.size
    have s30 : Chg 0 0 w11 w29 := (((d21.t c22).t c26).t cb28)
    refine wl_nil ?_
    refine dx_next s30 ?_
    refine dx_eff 10 rfl (by kernel_rfl) ?_
    have f32 := ot_26.ext cb28
    have f33 := os_26.ext cb28
    refine sx_store (vs := [.bool ((rR (sgI (ng x1) x1.natAbs) (10 ^ (p1).toNat)).1), s26, t26]) rfl rfl fb28 rfl Tryz.sizeOf37 (nbl rfl) (one_cons rfl (one_cons f33.one (one_cons f32.one one_nil))) (fun w31 sw31 fw31 cw31 => ?_)
    have zw31 := cw31.size
    have gw31 : Blk w31 b28 [.bool ((rR (sgI (ng x1) x1.natAbs) (10 ^ (p1).toNat)).1), s26, t26] 37 := fw31
    have q35 := Chg.step (l := 0) (h := 0) (Chg.zero (l := 0) (h := 0) (((d21.t c22).t c26).t cb28)) cw31 (by omega)
    have s34 : Chg 0 0 w11 w31 := q35
    refine wl_nil ?_
    refine dx_next s34 ?_
    refine dt 11 rfl rfl rfl rfl s34 (fun _ hS => px_assign rfl) ?_
    refine dx_done (by kernel_rfl) ?_
    have f36 := f33.chg cw31 (by omega)
    have f37 := f32.chg cw31 (by omega)
    have q38 := Chg.step (l := 0) (h := 0) (Chg.zero (l := 0) (h := 0) (((d21.t c22).t c26).t cb28)) cw31 (by omega)
    exact q_n (kw_sub (Sub.c 2 rfl (.c 3 rfl .nil)) (kc17 _ _ ⟨b28, s26, ls26, us26, t26, lt26, ut26, rfl, q38, gw31, f36, f37, by omega, by omega, by omega, by omega, by omega, by omega⟩))
   refine sx_alloc [.bool false, (.slice none 0 0), (.slice none 0 0)] rfl Tryz.zeroValue37 rfl (fun b39 w40 eb39 sb39 fb39 cb39 => ?_)
   have zw40 := cb39.size
   have s41 : Chg 0 0 w11 w40 := ((d21.t c22).t cb39)
   refine wl_nil ?_
   refine dx_next s41 ?_
   refine dx_eff 5 rfl (by kernel_rfl) ?_
   have f44 := ((f20.ext d21).ext c22).ext cb39
   have f45 := os_22.ext cb39
   refine sx_call rfl rfl Tryz.call43 (c_reduce f44 f45.sv (by omega) (by omega) (Nat.pow_pos (by decide))) (fun v46 w46 p46 => ?_)
   obtain ⟨s46, t46, ls46, us46, lt46, ut46, rfl, os_46, ot_46, hd46, hl46, c46⟩ := p46
   have zw46 := c46.size
   have s47 : Chg 0 0 w11 w46 := (((d21.t c22).t cb39).t c46)
   refine wl_nil ?_
   refine dx_next s47 ?_
   refine dt 6 rfl rfl rfl rfl s47 (fun _ hS => px_move rfl) ?_
   refine dt 7 rfl rfl rfl rfl s47 (fun _ hS => px_ex2 rfl rfl) ?_
   refine dt 8 rfl rfl rfl rfl s47 (fun _ hS => px_ex2 rfl rfl) ?_
   refine dx_eff 10 rfl (by kernel_rfl) ?_
   have f49 := fb39.ext c46
   refine sx_store (vs := [.bool ((rR (sgI (ng x1) x1.natAbs) (10 ^ (p1).toNat)).1), s46, t46]) rfl rfl f49 rfl Tryz.sizeOf37 (nbl rfl) (one_cons rfl (one_cons os_46.one (one_cons ot_46.one one_nil))) (fun w48 sw48 fw48 cw48 => ?_)
   have zw48 := cw48.size
   have gw48 : Blk w48 b39 [.bool ((rR (sgI (ng x1) x1.natAbs) (10 ^ (p1).toNat)).1), s46, t46] 37 := fw48
   have q51 := Chg.step (l := 0) (h := 0) (Chg.zero (l := 0) (h := 0) (((d21.t c22).t cb39).t c46)) cw48 (by omega)
   have s50 : Chg 0 0 w11 w48 := q51
   refine wl_nil ?_
   refine dx_next s50 ?_
   refine dt 11 rfl rfl rfl rfl s50 (fun _ hS => px_assign rfl) ?_
   refine dx_done (by kernel_rfl) ?_
   have f52 := os_46.chg cw48 (by omega)
   have f53 := ot_46.chg cw48 (by omega)
   have q54 := Chg.step (l := 0) (h := 0) (Chg.zero (l := 0) (h := 0) (((d21.t c22).t cb39).t c46)) cw48 (by omega)
   exact q_n (kw_sub (Sub.c 2 rfl (.c 3 rfl .nil)) (kc17 _ _ ⟨b39, s46, ls46, us46, t46, lt46, ut46, rfl, q54, gw48, f52, f53, by omega, by omega, by omega, by omega, by omega, by omega⟩))
  refine sx_alloc [.bool false, (.slice none 0 0), (.slice none 0 0)] rfl Tryz.zeroValue37 rfl (fun b55 w56 eb55 sb55 fb55 cb55 => ?_)
  have zw56 := cb55.size
  have s57 : Chg 0 0 w11 w56 := (d21.t cb55)
  refine wl_nil ?_
  refine dx_next s57 ?_
  refine dx_eff 4 rfl (by kernel_rfl) ?_
  refine sx_call rfl rfl Tryz.call41 (c_natTen (by omega)) (fun v58 w58 p58 => ?_)
  obtain ⟨s58, rfl, os_58, c58⟩ := p58
  have zw58 := c58.size
  have s59 : Chg 0 0 w11 w58 := ((d21.t cb55).t c58)
  refine wl_nil ?_
  refine dx_next s59 ?_
  refine dx_eff 5 rfl (by kernel_rfl) ?_
  have f61 := (f20.ext d21).ext cb55
  have f62 := f61.ext c58
  refine sx_call rfl rfl Tryz.call43 (c_reduce f62 os_58.sv (by omega) (by omega) (Nat.pow_pos (by decide))) (fun v63 w63 p63 => ?_)
  obtain ⟨s63, t63, ls63, us63, lt63, ut63, rfl, os_63, ot_63, hd63, hl63, c63⟩ := p63
  have zw63 := c63.size
  have s64 : Chg 0 0 w11 w63 := (((d21.t cb55).t c58).t c63)
  refine wl_nil ?_
  refine dx_next s64 ?_
  refine dt 6 rfl rfl rfl rfl s64 (fun _ hS => px_move rfl) ?_
  refine dt 7 rfl rfl rfl rfl s64 (fun _ hS => px_ex2 rfl rfl) ?_
  refine dt 8 rfl rfl rfl rfl s64 (fun _ hS => px_ex2 rfl rfl) ?_
  refine dx_eff 10 rfl (by kernel_rfl) ?_
  have f67 := (fb55.ext c58).ext c63
  refine sx_store (vs := [.bool ((rR (sgI (ng x1) x1.natAbs) (10 ^ (p1).toNat)).1), s63, t63]) rfl rfl f67 rfl Tryz.sizeOf37 (nbl rfl) (one_cons rfl (one_cons os_63.one (one_cons ot_63.one one_nil))) (fun w65 sw65 fw65 cw65 => ?_)
  have zw65 := cw65.size
  have gw65 : Blk w65 b55 [.bool ((rR (sgI (ng x1) x1.natAbs) (10 ^ (p1).toNat)).1), s63, t63] 37 := fw65
  have q69 := Chg.step (l := 0) (h := 0) (Chg.zero (l := 0) (h := 0) (((d21.t cb55).t c58).t c63)) cw65 (by omega)
  have s68 : Chg 0 0 w11 w65 := q69
  refine wl_nil ?_
  refine dx_next s68 ?_
  refine dt 11 rfl rfl rfl rfl s68 (fun _ hS => px_assign rfl) ?_
  refine dx_done (by kernel_rfl) ?_
  have f70 := os_63.chg cw65 (by omega)
  have f71 := ot_63.chg cw65 (by omega)
  have q72 := Chg.step (l := 0) (h := 0) (Chg.zero (l := 0) (h := 0) (((d21.t cb55).t c58).t c63)) cw65 (by omega)
  exact q_n (kw_sub (Sub.c 2 rfl (.c 3 rfl .nil)) (kc17 _ _ ⟨b55, s63, ls63, us63, t63, lt63, ut63, rfl, q72, gw65, f70, f71, by omega, by omega, by omega, by omega, by omega, by omega⟩))
 rintro fr w'17 ⟨gb17x0, gs17x1, gl17x1, gu17x1, gs17x2, gl17x2, gu17x2, rfl, cw'17, xgb17x0, xgs17x1, xgs17x2, ygb17x0, ygl17x1, ygl17x2, dgl17x1xgb17x0, dgl17x2xgb17x0, dgl17x2xgl17x1⟩
 have zw'17 := cw'17.size
 refine sx_seq fun K73 k73 => sx_region ?_
 refine sp rfl (px_load rfl (xgb17x0.loadA (vs := [.bool ((rR (sgI (ng x1) x1.natAbs) (10 ^ (p1).toNat)).1), gs17x1, gs17x2]) (look_lit rfl) Tryz.isAgg37 Tryz.sizeOf37)) ?_
 have f76 := (fb4.ext c11).ext cw'17
 refine sx_store (vs := [.bool ((rR (sgI (ng x1) x1.natAbs) (10 ^ (p1).toNat)).1), gs17x1, gs17x2]) rfl rfl f76 rfl Tryz.sizeOf37 (nbl rfl) (one_cons rfl (one_cons xgs17x1.one (one_cons xgs17x2.one one_nil))) (fun w74 sw74 fw74 cw74 => ?_)
 have zw74 := cw74.size
 have gw74 : Blk w74 b4 [.bool ((rR (sgI (ng x1) x1.natAbs) (10 ^ (p1).toNat)).1), gs17x1, gs17x2] 37 := fw74
 refine wl_nil (q_n (k73 _ _ ?_))
 refine sx_retc ?_
 refine sx_ret1 Tryz.results11 ⟨_, rfl, gw74.loadA (vs := [.bool ((rR (sgI (ng x1) x1.natAbs) (10 ^ (p1).toNat)).1), gs17x1, gs17x2]) (look_lit rfl) Tryz.isAgg37 Tryz.sizeOf37⟩ ?_
 have hrl := dRat_len (n := ng x1) (z := dg x1.natAbs) (p := p1)
 rw [dRat_ok hD] at hrl ⊢
 have q77 := Chg.step (l := 0) (h := 0) (Chg.zero (l := 0) (h := 0) (((cb2.t cb4).t c11).t cw'17)) cw74 (by omega)
 have f78 := xgs17x1.chg cw74 (by omega)
 have f79 := xgs17x2.chg cw74 (by omega)
 exact ⟨_, _, _, _, _, _, rfl, f78, f79, by omega, hrl, q77⟩

theorem c_iDecRatK {w : World} {n1 : Bool} {v1 : Value} {lv1 uv1 : Nat} {z1 : List Int} {p1 : Int} (hv1 : Sl w lv1 uv1 v1 (z1)) (hz1 : z1.length ≤ 4611686018427387904) (hP : Pos (dRat n1 z1 p1)) :
  Ret Tryz.prog 11 [.agg #[.bool n1, v1, .int .i64 p1]] w fun v w' => ∃ s t ls us lt ut x e, v = .agg #[.bool (ng x), s, t] ∧ OwnI w' (ls) (us) s intT (dg (x).natAbs) ∧ OwnI w' (lt) (ut) t intT (dg e) ∧ (w.heap.size ≤ ls ∧ us ≤ w'.heap.size ∧ w.heap.size ≤ lt ∧ ut ≤ w'.heap.size ∧ (us ≤ lt ∨ ut ≤ ls)) ∧ (ROk (ng x) (dg (x).natAbs) (dg e)) ∧ (dRat n1 z1 p1 = (ng x, dg (x).natAbs, dg e, true)) ∧ Chg 0 0 w w' := by
 obtain ⟨X, E, hE, hK, _, _, _⟩ := hP
 have h := c_iDecRat (n1 := n1) (p1 := p1) hv1 hz1; rw [hE] at h
 exact Calls.mono h fun ev w' ⟨v, he, s, t, ls, us, lt, ut, e1, o1, o2, hd, _, hc⟩ => ⟨v, he, s, t, ls, us, lt, ut, X, E, e1, o1, o2, hd, hK, hE, hc⟩

theorem c_iDecRatD {w : World} {va : Value} {lva uva : Nat} {x : Int} {p : Int} (hva : Sl w lva uva va (dg x.natAbs)) (hD : DOk (ng x) (dg x.natAbs) p) (hp18 : p ≤ 18) :
  Ret Tryz.prog 11 [.agg #[.bool (ng x), va, .int .i64 p]] w fun v w' => ∃ s t ls us lt ut, v = .agg #[.bool (ng (ratN x p)), s, t] ∧ OwnI w' (ls) (us) s intT (dg (ratN x p).natAbs) ∧ OwnI w' (lt) (ut) t intT (dg (ratE x p)) ∧ (w.heap.size ≤ ls ∧ us ≤ w'.heap.size ∧ w.heap.size ≤ lt ∧ ut ≤ w'.heap.size ∧ (us ≤ lt ∨ ut ≤ ls)) ∧ (ROk (ng (ratN x p)) (dg (ratN x p).natAbs) (dg (ratE x p))) ∧ ((dg (ratN x p).natAbs).length ≤ 6 ∧ (dg (ratE x p)).length ≤ 6) ∧ ((ratN x p) * tenI p = x * (((ratE x p) : Nat) : Int)) ∧ Chg 0 0 w w' := by
 obtain ⟨hE, hK, hl6, hv⟩ := dRat_form hD hp18
 have hl := (DOk_iff.1 hD).1
 have h := c_iDecRat (n1 := ng x) (p1 := p) hva (by omega); rw [hE] at h
 exact Calls.mono h fun ev w' ⟨v, he, s, t, ls, us, lt, ut, e1, o1, o2, hd, _, hc⟩ => ⟨v, he, s, t, ls, us, lt, ut, e1, o1, o2, hd, hK, hl6, hv, hc⟩

theorem c_iDecAdd {w : World} {n1 : Bool} {v1 : Value} {lv1 uv1 : Nat} {z1 : List Int} {p1 : Int} {n2 : Bool} {v2 : Value} {lv2 uv2 : Nat} {z2 : List Int} {p2 : Int} (hv1 : Sl w lv1 uv1 v1 (z1)) (hv2 : Sl w lv2 uv2 v2 (z2)) (h63 : z1.length ≤ 4611686018427387904 ∧ z2.length ≤ 4611686018427387904) :
  Ret Tryz.prog 12 [.agg #[.bool n1, v1, .int .i64 p1], .agg #[.bool n2, v2, .int .i64 p2]] w fun v w' => ∃ s, v = .tuple #[.agg #[.bool ((dBin fAdd n1 z1 p1 n2 z2 p2).1), s, .int .i64 ((dBin fAdd n1 z1 p1 n2 z2 p2).2.2.1)], .bool ((dBin fAdd n1 z1 p1 n2 z2 p2).2.2.2)] ∧ OwnI w' w.heap.size w'.heap.size s intT ((dBin fAdd n1 z1 p1 n2 z2 p2).2.1) ∧ ((dBin fAdd n1 z1 p1 n2 z2 p2).2.1.length ≤ 6) ∧ Chg 0 0 w w' := by
 have hv10 := hv1.fit
 have hv20 := hv2.fit
 refine sx_enter Tryz.func12 rfl Tryz.ntmps12 (nbl rfl) ?_
 refine sx_seq fun K1 k1 => sx_region ?_
 refine sx_box [.bool n1, v1, .int .i64 p1] rfl rfl rfl (fun b2 w3 eb2 sb2 fb2 cb2 => ?_)
 have zw3 := cb2.size
 refine sx_box [.bool n2, v2, .int .i64 p2] rfl rfl rfl (fun b4 w5 eb4 sb4 fb4 cb4 => ?_)
 have zw5 := cb4.size
 refine sx_alloc [.bool false, (.slice none 0 0), .int .i64 0] rfl Tryz.zeroValue27 rfl (fun b6 w7 eb6 sb6 fb6 cb6 => ?_)
 have zw7 := cb6.size
 refine av rfl rfl (wl_nil (q_n (k1 _ _ ?_)))
 refine sx_seq fun K8 k8 => ?_
 refine sx_seq fun K9 k9 => sx_region ?_
 have f10 := fb2.ext cb4
 have f11 := f10.ext cb6
 refine sp rfl (px_load rfl (f11.loadA (vs := [.bool n1, v1, .int .i64 p1]) (look_lit rfl) Tryz.isAgg27 Tryz.sizeOf27)) ?_
 have f12 := hv10.ext cb2
 have f13 := f12.ext cb4
 have f14 := f13.ext cb6
 refine sx_call rfl rfl Tryz.call34 (c_iDecOk f14 (by omega)) (fun v15 w15 p15 => ?_)
 obtain ⟨rfl, c15⟩ := p15
 have zw15 := c15.size
 refine sp rfl (px_notP rfl) ?_
 refine mv rfl rfl ?_
 refine sx_tmpP (t := 11) rfl (fun h112 => ?_) (fun h112 => ?_)
 ·
  refine sx_guardF rfl rfl rfl rfl rfl rfl ?_
  refine sx_guardF rfl rfl rfl rfl rfl rfl ?_
  refine sx_guardF rfl rfl rfl rfl rfl rfl ?_
  refine sp rfl (px_pick rfl rfl) ?_
  refine wl_nil (q_n (k9 _ _ ?_))
  refine sx_condT rfl ?_
  refine sx_seq fun K16 k16 => sx_region ?_
  refine sp rfl (px_build rfl (xbld27x  _)) ?_
  have f18 := fb6.ext c15
  refine sx_store (vs := [.bool false, (.slice none 0 0), .int .i64 0]) rfl rfl f18 rfl Tryz.sizeOf27 (nbl rfl) (o3 rfl rfl rfl) (fun w17 sw17 fw17 cw17 => ?_)
  have zw17 := cw17.size
  have gw17 : Blk w17 b6 [.bool false, (.slice none 0 0), .int .i64 0] 27 := fw17
  refine av rfl rfl (wl_nil (q_n (k16 _ _ ?_)))
  refine sx_sub (Sub.c 2 rfl (.c 3 rfl (.c 4 rfl (.c 5 rfl .nil)))) ?_
  refine sx_retc ?_
  refine q_r (sx_ret2 Tryz.results12 ⟨_, rfl, gw17.loadA (vs := [.bool false, (.slice none 0 0), .int .i64 0]) (look_lit rfl) Tryz.isAgg27 Tryz.sizeOf27⟩ rfl ?_)
  rw [dBin_no (by grind)]
  have q19 := Chg.step (l := 0) (h := 0) (Chg.zero (l := 0) (h := 0) (((cb2.t cb4).t cb6).t c15)) cw17 (by omega)
  exact ⟨_, rfl, Own.nil _ _ _ _ _, by simp, q19⟩
 refine sx_guardT rfl rfl rfl ?_
 have f20 := fb4.ext cb6
 have f21 := f20.ext c15
 refine sp rfl (px_load rfl (f21.loadA (vs := [.bool n2, v2, .int .i64 p2]) (look_lit rfl) Tryz.isAgg27 Tryz.sizeOf27)) ?_
 refine sx_guardT rfl rfl rfl ?_
 have f22 := hv20.ext cb2
 have f23 := f22.ext cb4
 have f24 := f23.ext cb6
 have f25 := f24.ext c15
 refine sx_call rfl rfl Tryz.call34 (c_iDecOk f25 (by omega)) (fun v26 w26 p26 => ?_)
 obtain ⟨rfl, c26⟩ := p26
 have zw26 := c26.size
 refine sx_guardT rfl rfl rfl ?_
 refine sp rfl (px_notP rfl) ?_
 refine sp rfl (px_pick rfl rfl) ?_
 refine wl_nil (q_n (k9 _ _ ?_))
 refine sx_condP rfl (fun h112x1 => ?_) (fun h112x1 => ?_)
 ·
  refine sx_seq fun K27 k27 => sx_region ?_
  refine sp rfl (px_build rfl (xbld27x  _)) ?_
  have f30 := (fb6.ext c15).ext c26
  refine sx_store (vs := [.bool false, (.slice none 0 0), .int .i64 0]) rfl rfl f30 rfl Tryz.sizeOf27 (nbl rfl) (o3 rfl rfl rfl) (fun w28 sw28 fw28 cw28 => ?_)
  have zw28 := cw28.size
  have gw28 : Blk w28 b6 [.bool false, (.slice none 0 0), .int .i64 0] 27 := fw28
  refine av rfl rfl (wl_nil (q_n (k27 _ _ ?_)))
  refine sx_sub (Sub.c 2 rfl (.c 3 rfl (.c 4 rfl (.c 5 rfl .nil)))) ?_
  refine sx_retc ?_
  refine q_r (sx_ret2 Tryz.results12 ⟨_, rfl, gw28.loadA (vs := [.bool false, (.slice none 0 0), .int .i64 0]) (look_lit rfl) Tryz.isAgg27 Tryz.sizeOf27⟩ rfl ?_)
  rw [dBin_no (by grind)]
  have q31 := Chg.step (l := 0) (h := 0) (Chg.zero (l := 0) (h := 0) ((((cb2.t cb4).t cb6).t c15).t c26)) cw28 (by omega)
  exact ⟨_, rfl, Own.nil _ _ _ _ _, by simp, q31⟩
 have hD1 := Decidable.not_not.1 h112
 have hD2 := Decidable.not_not.1 h112x1
 obtain ⟨x1, rfl, rfl, hx1⟩ := hD1.int
 obtain ⟨x2, rfl, rfl, hx2⟩ := hD2.int
 refine sx_skip ?_
 refine q_n (k8 _ _ ?_)
 refine sx_seq fun K32 k32 => sx_region ?_
 refine sp rfl (px_field rfl xfld27x1) ?_
 have f34 := (f11.ext c15).ext c26
 refine sp rfl (px_load rfl (f34.load1 rfl Tryz.isAgg3)) ?_
 refine sp rfl (px_field rfl xfld27x1) ?_
 have f35 := f21.ext c26
 refine sp rfl (px_load rfl (f35.load1 rfl Tryz.isAgg3)) ?_
 refine sp rfl (px_max rfl rfl) ?_
 refine av rfl rfl (wl_nil (q_n (k32 _ _ ?_)))
 refine sx_sub (Sub.c 2 rfl (.c 3 rfl (.c 4 rfl (.c 5 rfl (.c 6 rfl .nil))))) ?_
 refine sx_seq fun K36 k36 => sx_region ?_
 refine mv rfl rfl (sx_call rfl rfl Tryz.call39 (c_scaled) (fun v37 w37 p37 => ?_))
 obtain ⟨b37, rfl, xb_37, hb37, c37⟩ := p37
 have zw37 := c37.size
 refine av rfl rfl (wl_nil (q_n (k36 _ _ ?_)))
 refine sx_seq fun K38 k38 => ?_
 have f39 := f34.ext c37
 have f40 := f35.ext c37
 refine dx_region (fun w' => Chg b6 (b6 + 1) w37 w') (by kernel_rfl) (Chg.zero (Chg.drew _)) ?_
 have d46 := Chg.drew w37
 have s46 : Chg b6 (b6 + 1) w37 (World.drew w37) := Chg.zero (Chg.drew _)
 have y46 : (World.drew w37).heap.size = w37.heap.size := rfl
 generalize World.drew w37 = w46 at *
 have zw46 := d46.size
 refine dt 0 rfl rfl rfl rfl s46 (fun _ hS => px_move rfl) ?_
 refine dt 1 rfl rfl rfl rfl s46 (fun _ hS => px_load rfl ((f39.chg hS (by omega)).loadA (vs := [.bool (ng x1), v1, .int .i64 p1]) (look_lit rfl) Tryz.isAgg27 Tryz.sizeOf27)) ?_
 refine dt 3 rfl rfl rfl rfl s46 (fun _ hS => px_move rfl) ?_
 refine dt 4 rfl rfl rfl rfl s46 (fun _ hS => px_load rfl ((f40.chg hS (by omega)).loadA (vs := [.bool (ng x2), v2, .int .i64 p2]) (look_lit rfl) Tryz.isAgg27 Tryz.sizeOf27)) ?_
 refine dt 7 rfl rfl rfl rfl s46 (fun _ hS => px_move rfl) ?_
 refine dx_eff 2 rfl (by kernel_rfl) ?_
 have f47 := (((f14.ext c15).ext c26).ext c37).ext d46
 have f48 := xb_37.ext d46
 refine sx_callV rfl rfl rfl Tryz.call73 (c_scaled1 f47 f48 (by omega) (by omega)) (fun v49 w49 p49 => ?_)
 obtain ⟨s49, rfl, os_49, c49⟩ := p49
 have zw49 := c49.size
 have s50 : Chg b6 (b6 + 1) w37 w49 := (Chg.zero (l := b6) (h := (b6 + 1)) (d46.t c49))
 refine wl_nil ?_
 refine dx_next s50 ?_
 refine dx_eff 5 rfl (by kernel_rfl) ?_
 have f52 := (((f25.ext c26).ext c37).ext d46).ext c49
 have f53 := f48.ext c49
 refine sx_callV rfl rfl rfl Tryz.call73 (c_scaled1 f52 f53 (by omega) (by omega)) (fun v54 w54 p54 => ?_)
 obtain ⟨s54, rfl, os_54, c54⟩ := p54
 have zw54 := c54.size
 have s55 : Chg b6 (b6 + 1) w37 w54 := (Chg.zero (l := b6) (h := (b6 + 1)) ((d46.t c49).t c54))
 refine wl_nil ?_
 refine dx_next s55 ?_
 refine dx_eff 6 rfl (by kernel_rfl) ?_
 have f56 := os_49.ext c54
 refine sx_call rfl rfl Tryz.call44 (c_intAdd f56.sv os_54.sv (by have h1 := len_ten (k := max p1 p2 - p1) (by omega); have h2 := len_ten (k := max p1 p2 - p2) (by omega); have h3 := len_mulI x1 (tenI (max p1 p2 - p1)); have h4 := len_mulI x2 (tenI (max p1 p2 - p2)); first | omega | (have h5 := len_addI (x1 * tenI (max p1 p2 - p1)) (x2 * tenI (max p1 p2 - p2)); omega)) (by have h1 := len_ten (k := max p1 p2 - p1) (by omega); have h2 := len_ten (k := max p1 p2 - p2) (by omega); have h3 := len_mulI x1 (tenI (max p1 p2 - p1)); have h4 := len_mulI x2 (tenI (max p1 p2 - p2)); first | omega | (have h5 := len_addI (x1 * tenI (max p1 p2 - p1)) (x2 * tenI (max p1 p2 - p2)); omega))) (fun v57 w57 p57 => ?_)
 obtain ⟨s57, rfl, os_57, c57⟩ := p57
 have zw57 := c57.size
 have s58 : Chg b6 (b6 + 1) w37 w57 := (Chg.zero (l := b6) (h := (b6 + 1)) (((d46.t c49).t c54).t c57))
 refine wl_nil ?_
 refine dx_next s58 ?_
 refine dx_eff 8 rfl (by kernel_rfl) ?_
 refine sx_call rfl rfl Tryz.call38 (c_decOf os_57 (by have h1 := len_ten (k := max p1 p2 - p1) (by omega); have h2 := len_ten (k := max p1 p2 - p2) (by omega); have h3 := len_mulI x1 (tenI (max p1 p2 - p1)); have h4 := len_mulI x2 (tenI (max p1 p2 - p2)); first | omega | (have h5 := len_addI (x1 * tenI (max p1 p2 - p1)) (x2 * tenI (max p1 p2 - p2)); omega)) (by omega)) (fun v59 w59 p59 => ?_)
 obtain ⟨s59, rfl, os_59, c59⟩ := p59
 have zw59 := c59.size
 have s60 : Chg b6 (b6 + 1) w37 w59 := (Chg.zero (l := b6) (h := (b6 + 1)) ((((d46.t c49).t c54).t c57).t c59))
 refine wl_nil ?_
 refine dx_next s60 ?_
 refine dt 9 rfl rfl rfl rfl s60 (fun _ hS => px_ex2 rfl rfl) ?_
 refine dt 10 rfl rfl rfl rfl s60 (fun _ hS => px_ex2 rfl rfl) ?_
 refine dx_eff 11 rfl (by kernel_rfl) ?_
 have f69 := (((((((fb6.ext c15).ext c26).ext c37).ext d46).ext c49).ext c54).ext c57).ext c59
 refine sx_store (vs := [.bool ((decR ((x1 * tenI ((max p1 p2) - p1)) + (x2 * tenI ((max p1 p2) - p2))) (max p1 p2)).1), s59, .int .i64 ((decR ((x1 * tenI ((max p1 p2) - p1)) + (x2 * tenI ((max p1 p2) - p2))) (max p1 p2)).2.2.1)]) rfl rfl f69 rfl Tryz.sizeOf27 (nbl rfl) (one_cons rfl (one_cons os_59.one (o1 rfl))) (fun w61 sw61 fw61 cw61 => ?_)
 have zw61 := cw61.size
 have gw61 : Blk w61 b6 [.bool ((decR ((x1 * tenI ((max p1 p2) - p1)) + (x2 * tenI ((max p1 p2) - p2))) (max p1 p2)).1), s59, .int .i64 ((decR ((x1 * tenI ((max p1 p2) - p1)) + (x2 * tenI ((max p1 p2) - p2))) (max p1 p2)).2.2.1)] 27 := fw61
 have q71 := Chg.step (l := b6) (h := (b6 + 1)) (Chg.zero (l := b6) (h := (b6 + 1)) ((((d46.t c49).t c54).t c57).t c59)) cw61 (by omega)
 have s70 : Chg b6 (b6 + 1) w37 w61 := q71
 refine wl_nil ?_
 refine dx_next s70 ?_
 refine dt 12 rfl rfl rfl rfl s70 (fun _ hS => px_assign rfl) ?_
 refine dx_done (by kernel_rfl) ?_
 refine q_n (k38 _ _ ?_)
 refine sx_sub (Sub.c 4 rfl (.c 5 rfl .nil)) ?_
 refine sx_retc ?_
 refine sx_ret2 Tryz.results12 ⟨_, rfl, gw61.loadA (vs := [.bool ((decR ((x1 * tenI ((max p1 p2) - p1)) + (x2 * tenI ((max p1 p2) - p2))) (max p1 p2)).1), s59, .int .i64 ((decR ((x1 * tenI ((max p1 p2) - p1)) + (x2 * tenI ((max p1 p2) - p2))) (max p1 p2)).2.2.1)]) (look_lit rfl) Tryz.isAgg27 Tryz.sizeOf27⟩ rfl ?_
 rw [dBin_ok hD1 hD2]
 have q72 := Chg.step (l := 0) (h := 0) (Chg.zero (l := 0) (h := 0) ((((((((((cb2.t cb4).t cb6).t c15).t c26).t c37).t d46).t c49).t c54).t c57).t c59)) cw61 (by omega)
 have f73 := os_59.chg cw61 (by omega)
 exact ⟨_, rfl, (Own.mono f73 (by omega) (by omega)), decR_len _ _, q72⟩

theorem c_iDecAddD {w : World} {va1 : Value} {lva1 uva1 : Nat} {x1 : Int} {p1 : Int} {va2 : Value} {lva2 uva2 : Nat} {x2 : Int} {p2 : Int} (hva1 : Sl w lva1 uva1 va1 (dg x1.natAbs)) (hva2 : Sl w lva2 uva2 va2 (dg x2.natAbs)) (hD1 : DOk (ng x1) (dg x1.natAbs) p1) (hD2 : DOk (ng x2) (dg x2.natAbs) p2) (hS : DOk (ng (sumD x1 p1 x2 p2)) (dg (sumD x1 p1 x2 p2).natAbs) (max p1 p2)) :
  Ret Tryz.prog 12 [.agg #[.bool (ng x1), va1, .int .i64 p1], .agg #[.bool (ng x2), va2, .int .i64 p2]] w fun v w' => ∃ s, v = .tuple #[.agg #[.bool (ng (sumD x1 p1 x2 p2)), s, .int .i64 (max p1 p2)], .bool (true)] ∧ OwnI w' w.heap.size w'.heap.size s intT (dg (sumD x1 p1 x2 p2).natAbs) ∧ Chg 0 0 w w' := by
 have hl1 := (DOk_iff.1 hD1).1
 have hl2 := (DOk_iff.1 hD2).1
 have h := c_iDecAdd (n1 := ng x1) (p1 := p1) (n2 := ng x2) (p2 := p2) hva1 hva2 (by omega); rw [dBin_ok hD1 hD2, show fAdd x1 p1 x2 p2 = (sumD x1 p1 x2 p2, max p1 p2) from rfl, decR_ok hS] at h
 exact Calls.mono h fun ev w' ⟨v, he, s, e1, o1, _, hc⟩ => ⟨v, he, s, e1, o1, hc⟩

theorem c_intMul {w : World} {va : Value} {lva uva : Nat} {x : Int} {vb : Value} {lvb uvb : Nat} {y : Int} (hva : Sl w lva uva va (dg x.natAbs)) (hvb : Sl w lvb uvb vb (dg y.natAbs)) (hbx : (dg x.natAbs).length ≤ 1000) (hby : (dg y.natAbs).length ≤ 1000) :
  Ret Tryz.prog 45 [.agg #[.bool (ng x), va], .agg #[.bool (ng y), vb]] w fun v w' => ∃ s, v = .agg #[.bool (ng (x * y)), s] ∧ OwnI w' w.heap.size w'.heap.size s intT (dg (x * y).natAbs) ∧ Chg 0 0 w w' := by
 have hva0 := hva.fit
 have hvb0 := hvb.fit
 have l1 := len_mul x.natAbs y.natAbs
 refine sx_enter Tryz.func45 rfl Tryz.ntmps45 (nbl rfl) ?_
 refine sx_seq fun K1 k1 => sx_region ?_
 refine sx_box [.bool (ng x), va] rfl rfl rfl (fun b2 w3 eb2 sb2 fb2 cb2 => ?_)
 have zw3 := cb2.size
 refine sx_box [.bool (ng y), vb] rfl rfl rfl (fun b4 w5 eb4 sb4 fb4 cb4 => ?_)
 have zw5 := cb4.size
 refine sx_alloc [.bool false, (.slice none 0 0)] rfl Tryz.zeroValue25 rfl (fun b6 w7 eb6 sb6 fb6 cb6 => ?_)
 have zw7 := cb6.size
 refine wl_nil (q_n (k1 _ _ ?_))
 refine sx_seq fun K8 k8 => ?_
 have f9 := fb2.ext cb4
 have f10 := f9.ext cb6
 have f11 := fb4.ext cb6
 have f12 := hva0.ext cb2
 have f13 := f12.ext cb4
 have f14 := f13.ext cb6
 have f15 := hvb0.ext cb2
 have f16 := f15.ext cb4
 have f17 := f16.ext cb6
 refine dx_region (fun w' => Chg b6 (b6 + 1) w7 w') (by kernel_rfl) (Chg.zero (Chg.drew _)) ?_
 have d18 := Chg.drew w7
 have s18 : Chg b6 (b6 + 1) w7 (World.drew w7) := Chg.zero (Chg.drew _)
 have y18 : (World.drew w7).heap.size = w7.heap.size := rfl
 generalize World.drew w7 = w18 at *
 have zw18 := d18.size
 refine dt 0 rfl rfl rfl rfl s18 (fun _ hS => px_field rfl xfld25x0) ?_
 refine dt 1 rfl rfl rfl rfl s18 (fun _ hS => px_load rfl ((f10.chg hS (by omega)).load1 rfl Tryz.isAgg4)) ?_
 refine dt 2 rfl rfl rfl rfl s18 (fun _ hS => px_field rfl xfld25x0) ?_
 refine dt 3 rfl rfl rfl rfl s18 (fun _ hS => px_load rfl ((f11.chg hS (by omega)).load1 rfl Tryz.isAgg4)) ?_
 refine dt 4 rfl rfl rfl rfl s18 (fun _ hS => px_neB Tryz.underlying4 rfl rfl) ?_
 refine dt 5 rfl rfl rfl rfl s18 (fun _ hS => px_field rfl xfld25x1) ?_
 refine dt 6 rfl rfl rfl rfl s18 (fun _ hS => px_load rfl ((f10.chg hS (by omega)).load1 rfl Tryz.isAgg23)) ?_
 refine dt 7 rfl rfl rfl rfl s18 (fun _ hS => px_field rfl xfld25x1) ?_
 refine dt 8 rfl rfl rfl rfl s18 (fun _ hS => px_load rfl ((f11.chg hS (by omega)).load1 rfl Tryz.isAgg23)) ?_
 refine dx_eff 9 rfl (by kernel_rfl) ?_
 have f19 := f14.ext d18
 have f20 := f17.ext d18
 refine sx_call rfl rfl Tryz.call49 (c_natMul f19 f20 (by omega) (by omega)) (fun v21 w21 p21 => ?_)
 obtain ⟨s21, rfl, os_21, c21⟩ := p21
 have zw21 := c21.size
 have s22 : Chg b6 (b6 + 1) w7 w21 := (Chg.zero (l := b6) (h := (b6 + 1)) (d18.t c21))
 refine wl_nil ?_
 refine dx_next s22 ?_
 refine dx_eff 10 rfl (by kernel_rfl) ?_
 refine sx_call rfl rfl Tryz.call33 (c_signed os_21.sv (by omega)) (fun v23 w23 p23 => ?_)
 obtain ⟨rfl, c23⟩ := p23
 have zw23 := c23.size
 have s24 : Chg b6 (b6 + 1) w7 w23 := (Chg.zero (l := b6) (h := (b6 + 1)) ((d18.t c21).t c23))
 refine wl_nil ?_
 refine dx_next s24 ?_
 refine dx_eff 11 rfl (by kernel_rfl) ?_
 have f28 := ((fb6.ext d18).ext c21).ext c23
 have f29 := os_21.ext c23
 refine sx_store (vs := [.bool (nz ((ng x) != (ng y)) (dg (x.natAbs * y.natAbs))), v21]) rfl rfl f28 rfl Tryz.sizeOf25 (nbl rfl) (one_cons rfl (one_cons f29.one one_nil)) (fun w25 sw25 fw25 cw25 => ?_)
 have zw25 := cw25.size
 have gw25 : Blk w25 b6 [.bool (nz ((ng x) != (ng y)) (dg (x.natAbs * y.natAbs))), v21] 25 := fw25
 have q31 := Chg.step (l := b6) (h := (b6 + 1)) (Chg.zero (l := b6) (h := (b6 + 1)) ((d18.t c21).t c23)) cw25 (by omega)
 have s30 : Chg b6 (b6 + 1) w7 w25 := q31
 refine wl_nil ?_
 refine dx_next s30 ?_
 refine dx_done (by kernel_rfl) ?_
 refine q_n (k8 _ _ ?_)
 refine sx_sub (Sub.c 4 rfl .nil) ?_
 refine sx_retc ?_
 refine sx_ret1 Tryz.results45 ⟨_, rfl, gw25.loadA (vs := [.bool (nz ((ng x) != (ng y)) (dg (x.natAbs * y.natAbs))), v21]) (look_lit rfl) Tryz.isAgg25 Tryz.sizeOf25⟩ ?_
 have hh := mul_sg x y
 rw [← hh.1, ← hh.2]
 have q32 := Chg.step (l := 0) (h := 0) (Chg.zero (l := 0) (h := 0) (((((cb2.t cb4).t cb6).t d18).t c21).t c23)) cw25 (by omega)
 have f33 := f29.chg cw25 (by omega)
 exact ⟨_, rfl, (Own.mono f33 (by omega) (by omega)), q32⟩

theorem c_iDecMul {w : World} {n1 : Bool} {v1 : Value} {lv1 uv1 : Nat} {z1 : List Int} {p1 : Int} {n2 : Bool} {v2 : Value} {lv2 uv2 : Nat} {z2 : List Int} {p2 : Int} (hv1 : Sl w lv1 uv1 v1 (z1)) (hv2 : Sl w lv2 uv2 v2 (z2)) (h63 : z1.length ≤ 4611686018427387904 ∧ z2.length ≤ 4611686018427387904) :
  Ret Tryz.prog 13 [.agg #[.bool n1, v1, .int .i64 p1], .agg #[.bool n2, v2, .int .i64 p2]] w fun v w' => ∃ s, v = .tuple #[.agg #[.bool ((dBin fMul n1 z1 p1 n2 z2 p2).1), s, .int .i64 ((dBin fMul n1 z1 p1 n2 z2 p2).2.2.1)], .bool ((dBin fMul n1 z1 p1 n2 z2 p2).2.2.2)] ∧ OwnI w' w.heap.size w'.heap.size s intT ((dBin fMul n1 z1 p1 n2 z2 p2).2.1) ∧ ((dBin fMul n1 z1 p1 n2 z2 p2).2.1.length ≤ 6) ∧ Chg 0 0 w w' := by
 have hv10 := hv1.fit
 have hv20 := hv2.fit
 refine sx_enter Tryz.func13 rfl Tryz.ntmps13 (nbl rfl) ?_
 refine sx_seq fun K1 k1 => sx_region ?_
 refine sx_box [.bool n1, v1, .int .i64 p1] rfl rfl rfl (fun b2 w3 eb2 sb2 fb2 cb2 => ?_)
 have zw3 := cb2.size
 refine sx_box [.bool n2, v2, .int .i64 p2] rfl rfl rfl (fun b4 w5 eb4 sb4 fb4 cb4 => ?_)
 have zw5 := cb4.size
 refine sx_alloc [.bool false, (.slice none 0 0), .int .i64 0] rfl Tryz.zeroValue27 rfl (fun b6 w7 eb6 sb6 fb6 cb6 => ?_)
 have zw7 := cb6.size
 refine av rfl rfl (wl_nil (q_n (k1 _ _ ?_)))
 refine sx_seq fun K8 k8 => ?_
 refine sx_seq fun K9 k9 => sx_region ?_
 have f10 := fb2.ext cb4
 have f11 := f10.ext cb6
 refine sp rfl (px_load rfl (f11.loadA (vs := [.bool n1, v1, .int .i64 p1]) (look_lit rfl) Tryz.isAgg27 Tryz.sizeOf27)) ?_
 have f12 := hv10.ext cb2
 have f13 := f12.ext cb4
 have f14 := f13.ext cb6
 refine sx_call rfl rfl Tryz.call34 (c_iDecOk f14 (by omega)) (fun v15 w15 p15 => ?_)
 obtain ⟨rfl, c15⟩ := p15
 have zw15 := c15.size
 refine sp rfl (px_notP rfl) ?_
 refine mv rfl rfl ?_
 refine sx_tmpP (t := 9) rfl (fun h130 => ?_) (fun h130 => ?_)
 ·
  refine sx_guardF rfl rfl rfl rfl rfl rfl ?_
  refine sx_guardF rfl rfl rfl rfl rfl rfl ?_
  refine sx_guardF rfl rfl rfl rfl rfl rfl ?_
  refine sp rfl (px_pick rfl rfl) ?_
  refine wl_nil (q_n (k9 _ _ ?_))
  refine sx_condT rfl ?_
  refine sx_seq fun K16 k16 => sx_region ?_
  refine sp rfl (px_build rfl (xbld27x  _)) ?_
  have f18 := fb6.ext c15
  refine sx_store (vs := [.bool false, (.slice none 0 0), .int .i64 0]) rfl rfl f18 rfl Tryz.sizeOf27 (nbl rfl) (o3 rfl rfl rfl) (fun w17 sw17 fw17 cw17 => ?_)
  have zw17 := cw17.size
  have gw17 : Blk w17 b6 [.bool false, (.slice none 0 0), .int .i64 0] 27 := fw17
  refine av rfl rfl (wl_nil (q_n (k16 _ _ ?_)))
  refine sx_sub (Sub.c 2 rfl (.c 3 rfl (.c 4 rfl (.c 5 rfl .nil)))) ?_
  refine sx_retc ?_
  refine q_r (sx_ret2 Tryz.results13 ⟨_, rfl, gw17.loadA (vs := [.bool false, (.slice none 0 0), .int .i64 0]) (look_lit rfl) Tryz.isAgg27 Tryz.sizeOf27⟩ rfl ?_)
  rw [dBin_no (by grind)]
  have q19 := Chg.step (l := 0) (h := 0) (Chg.zero (l := 0) (h := 0) (((cb2.t cb4).t cb6).t c15)) cw17 (by omega)
  exact ⟨_, rfl, Own.nil _ _ _ _ _, by simp, q19⟩
 refine sx_guardT rfl rfl rfl ?_
 have f20 := fb4.ext cb6
 have f21 := f20.ext c15
 refine sp rfl (px_load rfl (f21.loadA (vs := [.bool n2, v2, .int .i64 p2]) (look_lit rfl) Tryz.isAgg27 Tryz.sizeOf27)) ?_
 refine sx_guardT rfl rfl rfl ?_
 have f22 := hv20.ext cb2
 have f23 := f22.ext cb4
 have f24 := f23.ext cb6
 have f25 := f24.ext c15
 refine sx_call rfl rfl Tryz.call34 (c_iDecOk f25 (by omega)) (fun v26 w26 p26 => ?_)
 obtain ⟨rfl, c26⟩ := p26
 have zw26 := c26.size
 refine sx_guardT rfl rfl rfl ?_
 refine sp rfl (px_notP rfl) ?_
 refine sp rfl (px_pick rfl rfl) ?_
 refine wl_nil (q_n (k9 _ _ ?_))
 refine sx_condP rfl (fun h130x1 => ?_) (fun h130x1 => ?_)
 ·
  refine sx_seq fun K27 k27 => sx_region ?_
  refine sp rfl (px_build rfl (xbld27x  _)) ?_
  have f30 := (fb6.ext c15).ext c26
  refine sx_store (vs := [.bool false, (.slice none 0 0), .int .i64 0]) rfl rfl f30 rfl Tryz.sizeOf27 (nbl rfl) (o3 rfl rfl rfl) (fun w28 sw28 fw28 cw28 => ?_)
  have zw28 := cw28.size
  have gw28 : Blk w28 b6 [.bool false, (.slice none 0 0), .int .i64 0] 27 := fw28
  refine av rfl rfl (wl_nil (q_n (k27 _ _ ?_)))
  refine sx_sub (Sub.c 2 rfl (.c 3 rfl (.c 4 rfl (.c 5 rfl .nil)))) ?_
  refine sx_retc ?_
  refine q_r (sx_ret2 Tryz.results13 ⟨_, rfl, gw28.loadA (vs := [.bool false, (.slice none 0 0), .int .i64 0]) (look_lit rfl) Tryz.isAgg27 Tryz.sizeOf27⟩ rfl ?_)
  rw [dBin_no (by grind)]
  have q31 := Chg.step (l := 0) (h := 0) (Chg.zero (l := 0) (h := 0) ((((cb2.t cb4).t cb6).t c15).t c26)) cw28 (by omega)
  exact ⟨_, rfl, Own.nil _ _ _ _ _, by simp, q31⟩
 have hD1 := Decidable.not_not.1 h130
 have hD2 := Decidable.not_not.1 h130x1
 obtain ⟨x1, rfl, rfl, hx1⟩ := hD1.int
 obtain ⟨x2, rfl, rfl, hx2⟩ := hD2.int
 refine sx_skip ?_
 refine q_n (k8 _ _ ?_)
 refine sx_seq fun K32 k32 => ?_
 have f34 := (f11.ext c15).ext c26
 have f35 := f21.ext c26
 refine dx_region (fun w' => Chg b6 (b6 + 1) w26 w') (by kernel_rfl) (Chg.zero (Chg.drew _)) ?_
 have d39 := Chg.drew w26
 have s39 : Chg b6 (b6 + 1) w26 (World.drew w26) := Chg.zero (Chg.drew _)
 have y39 : (World.drew w26).heap.size = w26.heap.size := rfl
 generalize World.drew w26 = w39 at *
 have zw39 := d39.size
 refine dt 0 rfl rfl rfl rfl s39 (fun _ hS => px_field rfl xfld27x0) ?_
 refine dt 1 rfl rfl rfl rfl s39 (fun _ hS => px_load rfl ((f34.chg hS (by omega)).loadA (vs := [.bool (ng x1), v1]) (look_lit rfl) Tryz.isAgg25 Tryz.sizeOf25)) ?_
 refine dt 2 rfl rfl rfl rfl s39 (fun _ hS => px_field rfl xfld27x0) ?_
 refine dt 3 rfl rfl rfl rfl s39 (fun _ hS => px_load rfl ((f35.chg hS (by omega)).loadA (vs := [.bool (ng x2), v2]) (look_lit rfl) Tryz.isAgg25 Tryz.sizeOf25)) ?_
 refine dt 5 rfl rfl rfl rfl s39 (fun _ hS => px_field rfl xfld27x1) ?_
 refine dt 6 rfl rfl rfl rfl s39 (fun _ hS => px_load rfl ((f34.chg hS (by omega)).load1 rfl Tryz.isAgg3)) ?_
 refine dt 7 rfl rfl rfl rfl s39 (fun _ hS => px_field rfl xfld27x1) ?_
 refine dt 8 rfl rfl rfl rfl s39 (fun _ hS => px_load rfl ((f35.chg hS (by omega)).load1 rfl Tryz.isAgg3)) ?_
 refine dt 9 rfl rfl rfl rfl s39 (fun _ hS => px_add rfl rfl (by omega)) ?_
 refine dx_eff 4 rfl (by kernel_rfl) ?_
 have f40 := ((f14.ext c15).ext c26).ext d39
 have f41 := (f25.ext c26).ext d39
 refine sx_call rfl rfl Tryz.call45 (c_intMul f40 f41 (by omega) (by omega)) (fun v42 w42 p42 => ?_)
 obtain ⟨s42, rfl, os_42, c42⟩ := p42
 have zw42 := c42.size
 have s43 : Chg b6 (b6 + 1) w26 w42 := (Chg.zero (l := b6) (h := (b6 + 1)) (d39.t c42))
 refine wl_nil ?_
 refine dx_next s43 ?_
 refine dx_eff 10 rfl (by kernel_rfl) ?_
 refine sx_call rfl rfl Tryz.call38 (c_decOf os_42 (by have h := len_mulI x1 x2; omega) (by omega)) (fun v44 w44 p44 => ?_)
 obtain ⟨s44, rfl, os_44, c44⟩ := p44
 have zw44 := c44.size
 have s45 : Chg b6 (b6 + 1) w26 w44 := (Chg.zero (l := b6) (h := (b6 + 1)) ((d39.t c42).t c44))
 refine wl_nil ?_
 refine dx_next s45 ?_
 refine dt 11 rfl rfl rfl rfl s45 (fun _ hS => px_ex2 rfl rfl) ?_
 refine dt 12 rfl rfl rfl rfl s45 (fun _ hS => px_ex2 rfl rfl) ?_
 refine dx_eff 13 rfl (by kernel_rfl) ?_
 have f51 := ((((fb6.ext c15).ext c26).ext d39).ext c42).ext c44
 refine sx_store (vs := [.bool ((decR (x1 * x2) (p1 + p2)).1), s44, .int .i64 ((decR (x1 * x2) (p1 + p2)).2.2.1)]) rfl rfl f51 rfl Tryz.sizeOf27 (nbl rfl) (one_cons rfl (one_cons os_44.one (o1 rfl))) (fun w46 sw46 fw46 cw46 => ?_)
 have zw46 := cw46.size
 have gw46 : Blk w46 b6 [.bool ((decR (x1 * x2) (p1 + p2)).1), s44, .int .i64 ((decR (x1 * x2) (p1 + p2)).2.2.1)] 27 := fw46
 have q53 := Chg.step (l := b6) (h := (b6 + 1)) (Chg.zero (l := b6) (h := (b6 + 1)) ((d39.t c42).t c44)) cw46 (by omega)
 have s52 : Chg b6 (b6 + 1) w26 w46 := q53
 refine wl_nil ?_
 refine dx_next s52 ?_
 refine dt 14 rfl rfl rfl rfl s52 (fun _ hS => px_assign rfl) ?_
 refine dx_done (by kernel_rfl) ?_
 refine q_n (k32 _ _ ?_)
 refine sx_sub (Sub.c 4 rfl (.c 5 rfl .nil)) ?_
 refine sx_retc ?_
 refine sx_ret2 Tryz.results13 ⟨_, rfl, gw46.loadA (vs := [.bool ((decR (x1 * x2) (p1 + p2)).1), s44, .int .i64 ((decR (x1 * x2) (p1 + p2)).2.2.1)]) (look_lit rfl) Tryz.isAgg27 Tryz.sizeOf27⟩ rfl ?_
 rw [dBin_ok hD1 hD2]
 have q54 := Chg.step (l := 0) (h := 0) (Chg.zero (l := 0) (h := 0) (((((((cb2.t cb4).t cb6).t c15).t c26).t d39).t c42).t c44)) cw46 (by omega)
 have f55 := os_44.chg cw46 (by omega)
 exact ⟨_, rfl, (Own.mono f55 (by omega) (by omega)), decR_len _ _, q54⟩

theorem c_iDecMulD {w : World} {va1 : Value} {lva1 uva1 : Nat} {x1 : Int} {p1 : Int} {va2 : Value} {lva2 uva2 : Nat} {x2 : Int} {p2 : Int} (hva1 : Sl w lva1 uva1 va1 (dg x1.natAbs)) (hva2 : Sl w lva2 uva2 va2 (dg x2.natAbs)) (hD1 : DOk (ng x1) (dg x1.natAbs) p1) (hD2 : DOk (ng x2) (dg x2.natAbs) p2) (hS : DOk (ng (x1 * x2)) (dg (x1 * x2).natAbs) (p1 + p2)) :
  Ret Tryz.prog 13 [.agg #[.bool (ng x1), va1, .int .i64 p1], .agg #[.bool (ng x2), va2, .int .i64 p2]] w fun v w' => ∃ s, v = .tuple #[.agg #[.bool (ng (x1 * x2)), s, .int .i64 (p1 + p2)], .bool (true)] ∧ OwnI w' w.heap.size w'.heap.size s intT (dg (x1 * x2).natAbs) ∧ Chg 0 0 w w' := by
 have hl1 := (DOk_iff.1 hD1).1
 have hl2 := (DOk_iff.1 hD2).1
 have h := c_iDecMul (n1 := ng x1) (p1 := p1) (n2 := ng x2) (p2 := p2) hva1 hva2 (by omega); rw [dBin_ok hD1 hD2, show fMul x1 p1 x2 p2 = (x1 * x2, p1 + p2) from rfl, decR_ok hS] at h
 exact Calls.mono h fun ev w' ⟨v, he, s, e1, o1, _, hc⟩ => ⟨v, he, s, e1, o1, hc⟩

theorem c_iDecSub {w : World} {n1 : Bool} {v1 : Value} {lv1 uv1 : Nat} {z1 : List Int} {p1 : Int} {n2 : Bool} {v2 : Value} {lv2 uv2 : Nat} {z2 : List Int} {p2 : Int} (hv1 : Sl w lv1 uv1 v1 (z1)) (hv2 : Sl w lv2 uv2 v2 (z2)) (h63 : z1.length ≤ 4611686018427387904 ∧ z2.length ≤ 4611686018427387904) :
  Ret Tryz.prog 14 [.agg #[.bool n1, v1, .int .i64 p1], .agg #[.bool n2, v2, .int .i64 p2]] w fun v w' => ∃ s, v = .tuple #[.agg #[.bool ((dBin fSub n1 z1 p1 n2 z2 p2).1), s, .int .i64 ((dBin fSub n1 z1 p1 n2 z2 p2).2.2.1)], .bool ((dBin fSub n1 z1 p1 n2 z2 p2).2.2.2)] ∧ OwnI w' w.heap.size w'.heap.size s intT ((dBin fSub n1 z1 p1 n2 z2 p2).2.1) ∧ ((dBin fSub n1 z1 p1 n2 z2 p2).2.1.length ≤ 6) ∧ Chg 0 0 w w' := by
 have hv10 := hv1.fit
 have hv20 := hv2.fit
 refine sx_enter Tryz.func14 rfl Tryz.ntmps14 (nbl rfl) ?_
 refine sx_seq fun K1 k1 => sx_region ?_
 refine sx_box [.bool n1, v1, .int .i64 p1] rfl rfl rfl (fun b2 w3 eb2 sb2 fb2 cb2 => ?_)
 have zw3 := cb2.size
 refine sx_box [.bool n2, v2, .int .i64 p2] rfl rfl rfl (fun b4 w5 eb4 sb4 fb4 cb4 => ?_)
 have zw5 := cb4.size
 refine sx_alloc [.bool false, (.slice none 0 0), .int .i64 0] rfl Tryz.zeroValue27 rfl (fun b6 w7 eb6 sb6 fb6 cb6 => ?_)
 have zw7 := cb6.size
 refine av rfl rfl (wl_nil (q_n (k1 _ _ ?_)))
 refine sx_seq fun K8 k8 => ?_
 refine sx_seq fun K9 k9 => sx_region ?_
 have f10 := fb4.ext cb6
 refine sp rfl (px_load rfl (f10.loadA (vs := [.bool n2, v2, .int .i64 p2]) (look_lit rfl) Tryz.isAgg27 Tryz.sizeOf27)) ?_
 have f11 := hv20.ext cb2
 have f12 := f11.ext cb4
 have f13 := f12.ext cb6
 refine sx_call rfl rfl Tryz.call34 (c_iDecOk f13 (by omega)) (fun v14 w14 p14 => ?_)
 obtain ⟨rfl, c14⟩ := p14
 have zw14 := c14.size
 refine sp rfl (px_notP rfl) ?_
 refine wl_nil (q_n (k9 _ _ ?_))
 refine sx_condP rfl (fun h122 => ?_) (fun h122 => ?_)
 ·
  refine sx_seq fun K15 k15 => sx_region ?_
  refine sp rfl (px_build rfl (xbld27x  _)) ?_
  have f17 := fb6.ext c14
  refine sx_store (vs := [.bool false, (.slice none 0 0), .int .i64 0]) rfl rfl f17 rfl Tryz.sizeOf27 (nbl rfl) (o3 rfl rfl rfl) (fun w16 sw16 fw16 cw16 => ?_)
  have zw16 := cw16.size
  have gw16 : Blk w16 b6 [.bool false, (.slice none 0 0), .int .i64 0] 27 := fw16
  refine av rfl rfl (wl_nil (q_n (k15 _ _ ?_)))
  refine sx_retc ?_
  refine q_r (sx_ret2 Tryz.results14 ⟨_, rfl, gw16.loadA (vs := [.bool false, (.slice none 0 0), .int .i64 0]) (look_lit rfl) Tryz.isAgg27 Tryz.sizeOf27⟩ rfl ?_)
  rw [dBin_no (by grind)]
  have q18 := Chg.step (l := 0) (h := 0) (Chg.zero (l := 0) (h := 0) (((cb2.t cb4).t cb6).t c14)) cw16 (by omega)
  exact ⟨_, rfl, Own.nil _ _ _ _ _, by simp, q18⟩
 have hD2 := Decidable.not_not.1 h122
 obtain ⟨x2, rfl, rfl, hx2⟩ := hD2.int
 refine sx_skip ?_
 refine q_n (k8 _ _ ?_)
 refine sx_seq fun K19 k19 => ?_
 have f20 := fb2.ext cb4
 have f21 := f20.ext cb6
 have f22 := f21.ext c14
 have f23 := f10.ext c14
 have f24 := hv10.ext cb2
 have f25 := f24.ext cb4
 have f26 := f25.ext cb6
 refine dx_region (fun w' => Chg b6 (b6 + 1) w14 w') (by kernel_rfl) (Chg.zero (Chg.drew _)) ?_
 have d29 := Chg.drew w14
 have s29 : Chg b6 (b6 + 1) w14 (World.drew w14) := Chg.zero (Chg.drew _)
 have y29 : (World.drew w14).heap.size = w14.heap.size := rfl
 generalize World.drew w14 = w29 at *
 have zw29 := d29.size
 refine dt 0 rfl rfl rfl rfl s29 (fun _ hS => px_load rfl ((f22.chg hS (by omega)).loadA (vs := [.bool n1, v1, .int .i64 p1]) (look_lit rfl) Tryz.isAgg27 Tryz.sizeOf27)) ?_
 refine dt 1 rfl rfl rfl rfl s29 (fun _ hS => px_field rfl xfld27x0) ?_
 refine dt 2 rfl rfl rfl rfl s29 (fun _ hS => px_load rfl ((f23.chg hS (by omega)).loadA (vs := [.bool (ng x2), v2]) (look_lit rfl) Tryz.isAgg25 Tryz.sizeOf25)) ?_
 refine dt 4 rfl rfl rfl rfl s29 (fun _ hS => px_field rfl xfld27x1) ?_
 refine dt 5 rfl rfl rfl rfl s29 (fun _ hS => px_load rfl ((f23.chg hS (by omega)).load1 rfl Tryz.isAgg3)) ?_
 refine dx_eff 3 rfl (by kernel_rfl) ?_
 have f30 := (f13.ext c14).ext d29
 refine sx_call rfl rfl Tryz.call46 (c_intNeg f30 (by omega)) (fun v31 w31 p31 => ?_)
 obtain ⟨s31, rfl, os_31, c31⟩ := p31
 have zw31 := c31.size
 have s32 : Chg b6 (b6 + 1) w14 w31 := (Chg.zero (l := b6) (h := (b6 + 1)) (d29.t c31))
 refine wl_nil ?_
 refine dx_next s32 ?_
 refine dt 6 rfl rfl rfl rfl s32 (fun _ hS => px_build rfl (xbld27x0x1 rfl _)) ?_
 refine dx_eff 7 rfl (by kernel_rfl) ?_
 have f34 := ((f26.ext c14).ext d29).ext c31
 refine sx_call rfl rfl Tryz.call12 (c_iDecAdd f34 os_31.sv (by rw [Int.natAbs_neg]; omega)) (fun v35 w35 p35 => ?_)
 obtain ⟨s35, rfl, os_35, hl35, c35⟩ := p35
 have zw35 := c35.size
 have s36 : Chg b6 (b6 + 1) w14 w35 := (Chg.zero (l := b6) (h := (b6 + 1)) ((d29.t c31).t c35))
 refine wl_nil ?_
 refine dx_next s36 ?_
 refine dt 8 rfl rfl rfl rfl s36 (fun _ hS => px_ex2 rfl rfl) ?_
 refine dt 9 rfl rfl rfl rfl s36 (fun _ hS => px_ex2 rfl rfl) ?_
 refine dx_eff 10 rfl (by kernel_rfl) ?_
 have f41 := (((fb6.ext c14).ext d29).ext c31).ext c35
 refine sx_store (vs := [.bool ((dBin fAdd n1 z1 p1 (ng (-x2)) (dg (-x2).natAbs) p2).1), s35, .int .i64 ((dBin fAdd n1 z1 p1 (ng (-x2)) (dg (-x2).natAbs) p2).2.2.1)]) rfl rfl f41 rfl Tryz.sizeOf27 (nbl rfl) (one_cons rfl (one_cons os_35.one (o1 rfl))) (fun w37 sw37 fw37 cw37 => ?_)
 have zw37 := cw37.size
 have gw37 : Blk w37 b6 [.bool ((dBin fAdd n1 z1 p1 (ng (-x2)) (dg (-x2).natAbs) p2).1), s35, .int .i64 ((dBin fAdd n1 z1 p1 (ng (-x2)) (dg (-x2).natAbs) p2).2.2.1)] 27 := fw37
 have q43 := Chg.step (l := b6) (h := (b6 + 1)) (Chg.zero (l := b6) (h := (b6 + 1)) ((d29.t c31).t c35)) cw37 (by omega)
 have s42 : Chg b6 (b6 + 1) w14 w37 := q43
 refine wl_nil ?_
 refine dx_next s42 ?_
 refine dt 11 rfl rfl rfl rfl s42 (fun _ hS => px_assign rfl) ?_
 refine dx_done (by kernel_rfl) ?_
 refine q_n (k19 _ _ ?_)
 refine sx_sub (Sub.c 4 rfl (.c 5 rfl .nil)) ?_
 refine sx_retc ?_
 refine sx_ret2 Tryz.results14 ⟨_, rfl, gw37.loadA (vs := [.bool ((dBin fAdd n1 z1 p1 (ng (-x2)) (dg (-x2).natAbs) p2).1), s35, .int .i64 ((dBin fAdd n1 z1 p1 (ng (-x2)) (dg (-x2).natAbs) p2).2.2.1)]) (look_lit rfl) Tryz.isAgg27 Tryz.sizeOf27⟩ rfl ?_
 rw [dBin_sub]
 have q44 := Chg.step (l := 0) (h := 0) (Chg.zero (l := 0) (h := 0) ((((((cb2.t cb4).t cb6).t c14).t d29).t c31).t c35)) cw37 (by omega)
 have f45 := os_35.chg cw37 (by omega)
 exact ⟨_, rfl, (Own.mono f45 (by omega) (by omega)), dBin_len, q44⟩

theorem c_iDecSubD {w : World} {va1 : Value} {lva1 uva1 : Nat} {x1 : Int} {p1 : Int} {va2 : Value} {lva2 uva2 : Nat} {x2 : Int} {p2 : Int} (hva1 : Sl w lva1 uva1 va1 (dg x1.natAbs)) (hva2 : Sl w lva2 uva2 va2 (dg x2.natAbs)) (hD1 : DOk (ng x1) (dg x1.natAbs) p1) (hD2 : DOk (ng x2) (dg x2.natAbs) p2) (hS : DOk (ng (subD x1 p1 x2 p2)) (dg (subD x1 p1 x2 p2).natAbs) (max p1 p2)) :
  Ret Tryz.prog 14 [.agg #[.bool (ng x1), va1, .int .i64 p1], .agg #[.bool (ng x2), va2, .int .i64 p2]] w fun v w' => ∃ s, v = .tuple #[.agg #[.bool (ng (subD x1 p1 x2 p2)), s, .int .i64 (max p1 p2)], .bool (true)] ∧ OwnI w' w.heap.size w'.heap.size s intT (dg (subD x1 p1 x2 p2).natAbs) ∧ Chg 0 0 w w' := by
 have hl1 := (DOk_iff.1 hD1).1
 have hl2 := (DOk_iff.1 hD2).1
 have h := c_iDecSub (n1 := ng x1) (p1 := p1) (n2 := ng x2) (p2 := p2) hva1 hva2 (by omega); rw [dBin_ok hD1 hD2, show fSub x1 p1 x2 p2 = (subD x1 p1 x2 p2, max p1 p2) from rfl, decR_ok hS] at h
 exact Calls.mono h fun ev w' ⟨v, he, s, e1, o1, _, hc⟩ => ⟨v, he, s, e1, o1, hc⟩

theorem c_iRatOk {w : World} {n1 : Bool} {v1 : Value} {lv1 uv1 : Nat} {z1 : List Int} {d1 : Value} {ld1 ud1 : Nat} {y1 : List Int} (hv1 : Sl w lv1 uv1 v1 (z1)) (hd1 : Sl w ld1 ud1 d1 (y1)) (h63 : z1.length ≤ 4611686018427387904 ∧ y1.length ≤ 4611686018427387904) :
  Ret Tryz.prog 83 [.agg #[.bool n1, v1, d1]] w fun v w' => v = .bool (decide (ROk n1 z1 y1)) ∧ Chg 0 0 w w' := by
 have hv10 := hv1.fit
 have hd10 := hd1.fit
 refine sx_enter Tryz.func83 rfl Tryz.ntmps83 (nbl rfl) ?_
 refine sx_seq fun K1 k1 => sx_region ?_
 refine sx_box [.bool n1, v1, d1] rfl rfl rfl (fun b2 w3 eb2 sb2 fb2 cb2 => ?_)
 have zw3 := cb2.size
 refine av rfl rfl (wl_nil (q_n (k1 _ _ ?_)))
 refine sx_seq fun K4 k4 => ?_
 refine sx_seq fun K5 k5 => sx_region ?_
 refine sp rfl (px_field rfl xfld37x0) ?_
 refine sp rfl (px_load rfl (fb2.loadA (vs := [.bool n1, v1]) (look_lit rfl) Tryz.isAgg25 Tryz.sizeOf25)) ?_
 have f6 := hv10.ext cb2
 refine sx_call rfl rfl Tryz.call70 (c_iIntOk f6 (by omega)) (fun v7 w7 p7 => ?_)
 obtain ⟨rfl, c7⟩ := p7
 have zw7 := c7.size
 refine sp rfl (px_notP rfl) ?_
 refine mv rfl rfl ?_
 refine sx_tmpP (t := 8) rfl (fun h14 => ?_) (fun h14 => ?_)
 ·
  refine sx_guardF rfl rfl rfl rfl rfl rfl ?_
  refine sx_guardF rfl rfl rfl rfl rfl rfl ?_
  refine sx_guardF rfl rfl rfl rfl rfl rfl ?_
  refine sx_guardF rfl rfl rfl rfl rfl rfl ?_
  refine sp rfl (px_pick rfl rfl) ?_
  refine mv rfl rfl ?_
  refine sx_guardF rfl rfl rfl rfl rfl rfl ?_
  refine sx_guardF rfl rfl rfl rfl rfl rfl ?_
  refine sx_guardF rfl rfl rfl rfl rfl rfl ?_
  refine sx_guardF rfl rfl rfl rfl rfl rfl ?_
  refine sp rfl (px_pick rfl rfl) ?_
  refine mv rfl rfl ?_
  refine sx_guardF rfl rfl rfl rfl rfl rfl ?_
  refine sx_guardF rfl rfl rfl rfl rfl rfl ?_
  refine sx_guardF rfl rfl rfl rfl rfl rfl ?_
  refine sx_guardF rfl rfl rfl rfl rfl rfl ?_
  refine sp rfl (px_pick rfl rfl) ?_
  refine mv rfl rfl ?_
  refine sx_guardF rfl rfl rfl rfl rfl rfl ?_
  refine sx_guardF rfl rfl rfl rfl rfl rfl ?_
  refine sx_guardF rfl rfl rfl rfl rfl rfl ?_
  refine sx_guardF rfl rfl rfl rfl rfl rfl ?_
  refine sx_guardF rfl rfl rfl rfl rfl rfl ?_
  refine sp rfl (px_pick rfl rfl) ?_
  refine wl_nil (q_n (k5 _ _ ?_))
  refine sx_sub (Sub.c 1 rfl (.c 2 rfl (.c 32 rfl .nil))) ?_
  refine sx_condT rfl ?_
  refine sx_seq fun K8 k8 => sx_region ?_
  refine av rfl rfl (wl_nil (q_n (k8 _ _ ?_)))
  refine sx_retc ?_
  refine q_r (sx_ret1 Tryz.results83 rfl ?_)
  exact ⟨(bFalse (by grind [ROk])), (cb2.t c7)⟩
 refine sx_guardT rfl rfl rfl ?_
 refine sp rfl (px_field rfl xfld37x1) ?_
 refine sx_guardT rfl rfl rfl ?_
 have f9 := fb2.ext c7
 refine sp rfl (px_load rfl (f9.load1 rfl Tryz.isAgg23)) ?_
 refine sx_guardT rfl rfl rfl ?_
 have f10 := hd10.ext cb2
 have f11 := f10.ext c7
 refine sx_call rfl rfl Tryz.call104 (c_iNatOk f11 (by omega)) (fun v12 w12 p12 => ?_)
 obtain ⟨rfl, c12⟩ := p12
 have zw12 := c12.size
 refine sx_guardT rfl rfl rfl ?_
 refine sp rfl (px_notP rfl) ?_
 refine sp rfl (px_pick rfl rfl) ?_
 refine mv rfl rfl ?_
 refine sx_tmpP (t := 14) rfl (fun h14x1 => ?_) (fun h14x1 => ?_)
 ·
  refine sx_guardF rfl rfl rfl rfl rfl rfl ?_
  refine sx_guardF rfl rfl rfl rfl rfl rfl ?_
  refine sx_guardF rfl rfl rfl rfl rfl rfl ?_
  refine sx_guardF rfl rfl rfl rfl rfl rfl ?_
  refine sp rfl (px_pick rfl rfl) ?_
  refine mv rfl rfl ?_
  refine sx_guardF rfl rfl rfl rfl rfl rfl ?_
  refine sx_guardF rfl rfl rfl rfl rfl rfl ?_
  refine sx_guardF rfl rfl rfl rfl rfl rfl ?_
  refine sx_guardF rfl rfl rfl rfl rfl rfl ?_
  refine sp rfl (px_pick rfl rfl) ?_
  refine mv rfl rfl ?_
  refine sx_guardF rfl rfl rfl rfl rfl rfl ?_
  refine sx_guardF rfl rfl rfl rfl rfl rfl ?_
  refine sx_guardF rfl rfl rfl rfl rfl rfl ?_
  refine sx_guardF rfl rfl rfl rfl rfl rfl ?_
  refine sx_guardF rfl rfl rfl rfl rfl rfl ?_
  refine sp rfl (px_pick rfl rfl) ?_
  refine wl_nil (q_n (k5 _ _ ?_))
  refine sx_sub (Sub.c 1 rfl (.c 2 rfl (.c 32 rfl .nil))) ?_
  refine sx_condT rfl ?_
  refine sx_seq fun K13 k13 => sx_region ?_
  refine av rfl rfl (wl_nil (q_n (k13 _ _ ?_)))
  refine sx_retc ?_
  refine q_r (sx_ret1 Tryz.results83 rfl ?_)
  exact ⟨(bFalse (by grind [ROk])), ((cb2.t c7).t c12)⟩
 refine sx_guardT rfl rfl rfl ?_
 refine sp rfl (px_field rfl xfld37x1) ?_
 refine sx_guardT rfl rfl rfl ?_
 have f14 := f9.ext c12
 refine sp rfl (px_load rfl (f14.load1 rfl Tryz.isAgg23)) ?_
 refine sx_guardT rfl rfl rfl ?_
 have f15 := f11.ext c12
 refine sp rfl (px_len rfl Tryz.underlying23 f15) ?_
 refine sx_guardT rfl rfl rfl ?_
 refine sp rfl (px_eq rfl rfl) ?_
 refine sp rfl (px_pick rfl rfl) ?_
 refine mv rfl rfl ?_
 refine sx_tmpP (t := 20) rfl (fun h14x2 => ?_) (fun h14x2 => ?_)
 ·
  refine sx_guardF rfl rfl rfl rfl rfl rfl ?_
  refine sx_guardF rfl rfl rfl rfl rfl rfl ?_
  refine sx_guardF rfl rfl rfl rfl rfl rfl ?_
  refine sx_guardF rfl rfl rfl rfl rfl rfl ?_
  refine sp rfl (px_pick rfl rfl) ?_
  refine mv rfl rfl ?_
  refine sx_guardF rfl rfl rfl rfl rfl rfl ?_
  refine sx_guardF rfl rfl rfl rfl rfl rfl ?_
  refine sx_guardF rfl rfl rfl rfl rfl rfl ?_
  refine sx_guardF rfl rfl rfl rfl rfl rfl ?_
  refine sx_guardF rfl rfl rfl rfl rfl rfl ?_
  refine sp rfl (px_pick rfl rfl) ?_
  refine wl_nil (q_n (k5 _ _ ?_))
  refine sx_sub (Sub.c 1 rfl (.c 2 rfl (.c 32 rfl .nil))) ?_
  refine sx_condT rfl ?_
  refine sx_seq fun K16 k16 => sx_region ?_
  refine av rfl rfl (wl_nil (q_n (k16 _ _ ?_)))
  refine sx_retc ?_
  refine q_r (sx_ret1 Tryz.results83 rfl ?_)
  exact ⟨(bFalse (by grind [ROk])), ((cb2.t c7).t c12)⟩
 refine sx_guardT rfl rfl rfl ?_
 refine sp rfl (px_field rfl xfld37x1) ?_
 refine sx_guardT rfl rfl rfl ?_
 refine sp rfl (px_load rfl (f14.load1 rfl Tryz.isAgg23)) ?_
 refine sx_guardT rfl rfl rfl ?_
 refine sp rfl (px_len rfl Tryz.underlying23 f15) ?_
 refine sx_guardT rfl rfl rfl ?_
 refine sp rfl (px_gt rfl rfl) ?_
 refine sp rfl (px_pick rfl rfl) ?_
 refine mv rfl rfl ?_
 refine sx_tmpP (t := 26) rfl (fun h14x3 => ?_) (fun h14x3 => ?_)
 ·
  refine sx_guardF rfl rfl rfl rfl rfl rfl ?_
  refine sx_guardF rfl rfl rfl rfl rfl rfl ?_
  refine sx_guardF rfl rfl rfl rfl rfl rfl ?_
  refine sx_guardF rfl rfl rfl rfl rfl rfl ?_
  refine sx_guardF rfl rfl rfl rfl rfl rfl ?_
  refine sp rfl (px_pick rfl rfl) ?_
  refine wl_nil (q_n (k5 _ _ ?_))
  refine sx_sub (Sub.c 1 rfl (.c 2 rfl (.c 32 rfl .nil))) ?_
  refine sx_condT rfl ?_
  refine sx_seq fun K17 k17 => sx_region ?_
  refine av rfl rfl (wl_nil (q_n (k17 _ _ ?_)))
  refine sx_retc ?_
  refine q_r (sx_ret1 Tryz.results83 rfl ?_)
  exact ⟨(bFalse (by grind [ROk])), ((cb2.t c7).t c12)⟩
 refine sx_guardT rfl rfl rfl ?_
 refine sp rfl (px_field rfl xfld37x0) ?_
 refine sx_guardT rfl rfl rfl ?_
 refine sp rfl (px_field rfl xfld25x1) ?_
 refine sx_guardT rfl rfl rfl ?_
 refine sp rfl (px_load rfl (f14.load1 rfl Tryz.isAgg23)) ?_
 refine sx_guardT rfl rfl rfl ?_
 have f19 := (f6.ext c7).ext c12
 refine sp rfl (px_len rfl Tryz.underlying23 f19) ?_
 refine sx_guardT rfl rfl rfl ?_
 refine sp rfl (px_gt rfl rfl) ?_
 refine sp rfl (px_pick rfl rfl) ?_
 refine wl_nil (q_n (k5 _ _ ?_))
 refine sx_sub (Sub.c 1 rfl (.c 2 rfl (.c 32 rfl .nil))) ?_
 refine sx_condP rfl (fun h14x4 => ?_) (fun h14x4 => ?_)
 ·
  refine sx_seq fun K20 k20 => sx_region ?_
  refine av rfl rfl (wl_nil (q_n (k20 _ _ ?_)))
  refine sx_retc ?_
  refine q_r (sx_ret1 Tryz.results83 rfl ?_)
  exact ⟨(bFalse (by grind [ROk])), ((cb2.t c7).t c12)⟩
 have hR1 := Decidable.not_not.1 h14
 have hR2 := Decidable.not_not.1 h14x1
 obtain ⟨x1, rfl, rfl, hx1⟩ := hR1.int
 obtain ⟨e1, rfl, he1⟩ := hR2.dg
 have he0 : 0 < e1 := len_pos.1 (by omega)
 have hk : ROk (ng x1) (dg x1.natAbs) (dg e1) ↔ dg (Nat.gcd x1.natAbs e1) = [1] := by rw [ROk_iff, dg_is_one]; exact ⟨fun h => h.2.2.2, fun h => ⟨he0, by omega, by omega, h⟩⟩
 refine sx_skip ?_
 refine q_n (k4 _ _ ?_)
 refine sx_seq fun K21 k21 => sx_region ?_
 refine sp rfl (px_field rfl xfld37x0) ?_
 refine sp rfl (px_field rfl xfld25x1) ?_
 refine sp rfl (px_load rfl (f14.load1 rfl Tryz.isAgg23)) ?_
 refine sp rfl (px_field rfl xfld37x1) ?_
 refine sp rfl (px_load rfl (f14.load1 rfl Tryz.isAgg23)) ?_
 refine sx_call rfl rfl Tryz.call80 (c_natGcd f19 f15 (by omega) (by omega)) (fun v22 w22 p22 => ?_)
 obtain ⟨s22, rfl, os_22, c22⟩ := p22
 have zw22 := c22.size
 refine av rfl rfl (wl_nil (q_n (k21 _ _ ?_)))
 refine sx_seq fun K23 k23 => sx_region ?_
 refine mv rfl rfl (sp rfl (px_len rfl Tryz.underlying23 os_22.sv) ?_)
 refine sp rfl (px_eq rfl rfl) ?_
 refine mv rfl rfl ?_
 refine sx_tmpP (t := 42) rfl (fun h18 => ?_) (fun h18 => ?_)
 ·
  refine sx_guardT rfl rfl rfl ?_
  refine mv rfl rfl ?_
  refine sx_guardT rfl rfl rfl ?_
  refine sp rfl (px_index1 (j := 0) rfl rfl (by omega) Tryz.underlying23 Tryz.sizeOf3 os_22.sv (by omega)) ?_
  refine sx_guardT rfl rfl rfl ?_
  refine sp rfl (px_load rfl (os_22.sv.load1 (at_int (by omega)) Tryz.isAgg3)) ?_
  refine sx_guardT rfl rfl rfl ?_
  refine sp rfl (px_eq rfl rfl) ?_
  refine sp rfl (px_pick rfl rfl) ?_
  refine av rfl rfl (wl_nil (q_n (k23 _ _ ?_)))
  refine sx_sub (Sub.c 2 rfl .nil) ?_
  refine sx_retc ?_
  refine sx_ret1 Tryz.results83 rfl ?_
  rw [one_iff] at hk
  exact ⟨(by first | exact bFalse (fun h => by have := hk.1 h; omega) | exact bIff ⟨fun h => hk.2 ⟨by omega, h⟩, fun h => (hk.1 h).2⟩), (((cb2.t c7).t c12).t c22)⟩
 refine sx_guardF rfl rfl rfl rfl rfl rfl ?_
 refine sx_guardF rfl rfl rfl rfl rfl rfl ?_
 refine sx_guardF rfl rfl rfl rfl rfl rfl ?_
 refine sx_guardF rfl rfl rfl rfl rfl rfl ?_
 refine sp rfl (px_pick rfl rfl) ?_
 refine av rfl rfl (wl_nil (q_n (k23 _ _ ?_)))
 refine sx_sub (Sub.c 2 rfl .nil) ?_
 refine sx_retc ?_
 refine sx_ret1 Tryz.results83 rfl ?_
 rw [one_iff] at hk
 exact ⟨(by first | exact bFalse (fun h => by have := hk.1 h; omega) | exact bIff ⟨fun h => hk.2 ⟨by omega, h⟩, fun h => (hk.1 h).2⟩), (((cb2.t c7).t c12).t c22)⟩

theorem c_ratsOk {w : World} {n1 : Bool} {v1 : Value} {lv1 uv1 : Nat} {z1 : List Int} {d1 : Value} {ld1 ud1 : Nat} {y1 : List Int} {n2 : Bool} {v2 : Value} {lv2 uv2 : Nat} {z2 : List Int} {d2 : Value} {ld2 ud2 : Nat} {y2 : List Int} (hv1 : Sl w lv1 uv1 v1 (z1)) (hd1 : Sl w ld1 ud1 d1 (y1)) (hv2 : Sl w lv2 uv2 v2 (z2)) (hd2 : Sl w ld2 ud2 d2 (y2)) (h63 : z1.length ≤ 4611686018427387904 ∧ y1.length ≤ 4611686018427387904 ∧ z2.length ≤ 4611686018427387904 ∧ y2.length ≤ 4611686018427387904) :
  Ret Tryz.prog 47 [.agg #[.bool n1, v1, d1], .agg #[.bool n2, v2, d2]] w fun v w' => v = .bool (decide (ROk n1 z1 y1 ∧ ROk n2 z2 y2)) ∧ Chg 0 0 w w' := by
 have hv10 := hv1.fit
 have hd10 := hd1.fit
 have hv20 := hv2.fit
 have hd20 := hd2.fit
 refine sx_enter Tryz.func47 rfl Tryz.ntmps47 (nbl rfl) ?_
 refine sx_seq fun K1 k1 => sx_region ?_
 refine sx_box [.bool n1, v1, d1] rfl rfl rfl (fun b2 w3 eb2 sb2 fb2 cb2 => ?_)
 have zw3 := cb2.size
 refine sx_box [.bool n2, v2, d2] rfl rfl rfl (fun b4 w5 eb4 sb4 fb4 cb4 => ?_)
 have zw5 := cb4.size
 refine av rfl rfl (wl_nil (q_n (k1 _ _ ?_)))
 refine sx_seq fun K6 k6 => sx_region ?_
 have f7 := fb2.ext cb4
 refine sp rfl (px_load rfl (f7.loadA (vs := [.bool n1, v1, d1]) (look_lit rfl) Tryz.isAgg37 Tryz.sizeOf37)) ?_
 have f8 := hv10.ext cb2
 have f9 := f8.ext cb4
 have f10 := hd10.ext cb2
 have f11 := f10.ext cb4
 refine sx_call rfl rfl Tryz.call83 (c_iRatOk f9 f11 (by omega)) (fun v12 w12 p12 => ?_)
 obtain ⟨rfl, c12⟩ := p12
 have zw12 := c12.size
 refine mv rfl rfl ?_
 refine sx_tmpP (t := 7) rfl (fun h33 => ?_) (fun h33 => ?_)
 ·
  refine sx_guardT rfl rfl rfl ?_
  have f13 := fb4.ext c12
  refine sp rfl (px_load rfl (f13.loadA (vs := [.bool n2, v2, d2]) (look_lit rfl) Tryz.isAgg37 Tryz.sizeOf37)) ?_
  refine sx_guardT rfl rfl rfl ?_
  have f14 := hv20.ext cb2
  have f15 := f14.ext cb4
  have f16 := f15.ext c12
  have f17 := hd20.ext cb2
  have f18 := f17.ext cb4
  have f19 := f18.ext c12
  refine sx_call rfl rfl Tryz.call83 (c_iRatOk f16 f19 (by omega)) (fun v20 w20 p20 => ?_)
  obtain ⟨rfl, c20⟩ := p20
  have zw20 := c20.size
  refine sp rfl (px_pick rfl rfl) ?_
  refine av rfl rfl (wl_nil (q_n (k6 _ _ ?_)))
  refine sx_retc ?_
  refine sx_ret1 Tryz.results47 rfl ?_
  exact ⟨(by first | exact bTrue (by grind) | exact bFalse (by grind) | exact bIff (by grind)), (((cb2.t cb4).t c12).t c20)⟩
 refine sx_guardF rfl rfl rfl rfl rfl rfl ?_
 refine sx_guardF rfl rfl rfl rfl rfl rfl ?_
 refine sp rfl (px_pick rfl rfl) ?_
 refine av rfl rfl (wl_nil (q_n (k6 _ _ ?_)))
 refine sx_retc ?_
 refine sx_ret1 Tryz.results47 rfl ?_
 exact ⟨(by first | exact bTrue (by grind) | exact bFalse (by grind) | exact bIff (by grind)), ((cb2.t cb4).t c12)⟩

end Go.Proofs.YtoeclobdbblohaaGreatDoor
