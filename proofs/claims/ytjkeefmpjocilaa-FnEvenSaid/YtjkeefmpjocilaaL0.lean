/- Contracts of functions of the program: what each call returns, and that it changes nothing that was. Conditions: as each says. -/
import Derived.Test.YtjkeefmpjocilaaTy
import Derived.Test.YtjkeefmpjocilaaNatI
import Derived.Test.YtjkeefmpjocilaaSxW
import Derived.Test.YtjkeefmpjocilaaSxQ
import Derived.Test.YtjkeefmpjocilaaSxR
import Derived.Test.YtjkeefmpjocilaaSxP
import Derived.Test.YtjkeefmpjocilaaRm
set_option linter.unusedVariables false
set_option linter.unusedSimpArgs false
namespace Go.Proofs.Ytjkeefmpjocilaa
open Go Go.RowKit
set_option maxRecDepth 100000
theorem c_clone {w : World} {vd : Value} {lvd uvd tvd : Nat} {ix : List Nat} {ps : List Value} {r : Nat → Nat} (hvd : PtO w lvd uvd tvd vd 66 ix ps r) (hn : 1 ≤ ix.length ∧ ix.length ≤ 30) :
  Ret Try.prog 69 [vd] w fun v w' => ∃ v2, v = v2 ∧ PtO w' (w.heap.size) (w'.heap.size) (w.heap.size) v2 66 (ix) ps r ∧ Chg 0 0 w w' := by
 refine sx_enter Try.func69 rfl Try.ntmps69 (nbl rfl) ?_
 refine sx_seq fun K1 k1 => sx_region ?_
 refine av rfl rfl (wl_nil (q_n (k1 _ _ ?_)))
 refine sx_seq fun K2 k2 => ?_
 refine sx_seq fun K3 k3 => sx_region ?_
 refine mv rfl rfl (sp rfl (px_neNil Try.underlying61 rfl rfl hvd.sv (by omega)) ?_)
 refine wl_nil (q_n (k3 _ _ ?_))
 refine sx_condF rfl ?_
 refine sx_skip ?_
 refine q_n (k2 _ _ ?_)
 refine sx_seq fun K4 k4 => sx_region ?_
 refine sx_lit0 rfl xelt61 (fun s5 ws5 ss5 fs5 cs5 => ?_)
 have zws5 := cs5.size
 refine mv rfl rfl ?_
 have f7 := hvd.ext cs5
 refine sx_append2 rfl xelt61 rfl rfl fs5 f7.sv (by omega) hvd.ones (by omega) (by omega) (by unfold maxLen; omega) (fun a6 w6 alw6 ahw6 adw6 fw6 cw6 => ?_)
 have zw6 := cw6.size
 refine av rfl rfl (wl_nil (q_n (k4 _ _ ?_)))
 refine sx_retc ?_
 refine sx_ret1 Try.results69 rfl ?_
 have hO := fw6
 have q8 := Chg.step (l := 0) (h := 0) (Chg.zero (l := 0) (h := 0) cs5) cw6 (by omega)
 have hc0 := q8
 refine ⟨_, rfl, ⟨by simpa using hO.mono (by omega) (by omega), hvd.mem, fun i hi => ((hvd.nest i hi).new (Nat.le_refl _)).ext hc0⟩, hc0⟩

theorem c_natCmp {w : World} {va : Value} {lva uva : Nat} {zs : List Int} {vb : Value} {lvb uvb : Nat} {ys : List Int} (hva : Sl w lva uva va (zs)) (hvb : Sl w lvb uvb vb (ys)) (h63 : zs.length ≤ 4611686018427387904 ∧ ys.length ≤ 4611686018427387904) :
  Ret Try.prog 35 [va, vb] w fun v w' => v = .int .i64 (cmpL zs ys) ∧ Chg 0 0 w w' := by
 have hva0 := hva.fit
 have hvb0 := hvb.fit
 have zs0 : zs.drop zs.length = [] := by simp
 have ys0 : ys.drop ys.length = [] := by simp
 refine sx_enter Try.func35 rfl Try.ntmps35 (nbl rfl) ?_
 refine sx_seq fun K1 k1 => sx_region ?_
 refine av rfl rfl (wl_nil (q_n (k1 _ _ ?_)))
 refine sx_seq fun K2 k2 => ?_
 refine sx_seq fun K3 k3 => sx_region ?_
 refine mv rfl rfl (sp rfl (px_len rfl Try.underlying23 hva0) ?_)
 refine mv rfl rfl (sp rfl (px_len rfl Try.underlying23 hvb0) ?_)
 refine sp rfl (px_ne rfl rfl) ?_
 refine wl_nil (q_n (k3 _ _ ?_))
 refine sx_condP rfl (fun h76 => ?_) (fun h76 => ?_)
 ·
  refine sx_seq fun K4 k4 => ?_
  refine sx_seq fun K5 k5 => sx_region ?_
  refine mv rfl rfl (sp rfl (px_len rfl Try.underlying23 hva0) ?_)
  refine mv rfl rfl (sp rfl (px_len rfl Try.underlying23 hvb0) ?_)
  refine sp rfl (px_lt rfl rfl) ?_
  refine wl_nil (q_n (k5 _ _ ?_))
  refine sx_condP rfl (fun h77 => ?_) (fun h77 => ?_)
  ·
   refine sx_seq fun K6 k6 => sx_region ?_
   refine av rfl rfl (wl_nil (q_n (k6 _ _ ?_)))
   refine sx_retc ?_
   refine q_r (q_r (sx_ret1 Try.results35 rfl ?_))
   exact ⟨iEq (cmpL_short (by omega)).symm, (Chg.refl 0 0 _)⟩
  refine sx_skip ?_
  refine q_n (k4 _ _ ?_)
  refine sx_seq fun K7 k7 => sx_region ?_
  refine av rfl rfl (wl_nil (q_n (k7 _ _ ?_)))
  refine sx_retc ?_
  refine q_r (sx_ret1 Try.results35 rfl ?_)
  exact ⟨iEq (cmpL_long (by omega)).symm, (Chg.refl 0 0 _)⟩
 refine sx_skip ?_
 refine q_n (k2 _ _ ?_)
 refine sx_seq fun K8 k8 => ?_
 refine sx_seq fun K9 k9 => sx_region ?_
 refine mv rfl rfl (sp rfl (px_len rfl Try.underlying23 hva0) ?_)
 refine sp rfl (px_sub rfl rfl (by omega)) ?_
 refine av rfl rfl (wl_nil (q_n (k9 _ _ ?_)))
 refine sx_block ?_
 have e00 : zs.length = ys.length := by omega
 have he0 : zs.drop zs.length = ys.drop zs.length := by rw [zs0, e00, ys0]
 refine sx_loop (fun mm aa w' => ∃ (k : Nat), Agr 41 [(0, va), (1, vb), (5, .int .i64 (↑k - 1))] aa ∧ Chg 0 0 w w' ∧ (mm = k) ∧ (k ≤ zs.length) ∧ (zs.drop k = ys.drop k)) (_) (fun a ha => ⟨zs.length, ha.sub (Sub.c 0 rfl (.c 1 rfl (.c 5 (look_int (t := 5) rfl (by first | omega | simp)) .nil))), Chg.refl _ _ _, rfl, by omega, he0⟩) ?_
 rintro mm aa wl10 ⟨k, hAwl10, cwl10, hm, hk, he⟩
 refine (show cw Try.prog 41 _ _ _ wl10 from ?_) aa hAwl10
 clear hAwl10
 have zwl10 := cwl10.size
 have hl : zs.length = ys.length := by omega
 refine sx_seq fun K11 k11 => ?_
 refine sx_seq fun K12 k12 => sx_region ?_
 refine mv rfl rfl (sp rfl (px_ge rfl rfl) ?_)
 refine wl_nil (q_n (k12 _ _ ?_))
 refine sx_condP rfl (fun h82 => ?_) (fun h82 => ?_)
 ·
  refine sx_skip ?_
  refine q_n (k11 _ _ ?_)
  refine sx_seq fun K13 k13 => ?_
  refine sx_block ?_
  refine sx_seq fun K14 k14 => ?_
  have f15 := hva0.ext cwl10
  have f16 := hvb0.ext cwl10
  refine dx_region (fun w' => Chg 0 0 wl10 w') (by kernel_rfl) (Chg.zero (Chg.drew _)) ?_
  have d17 := Chg.drew wl10
  have s17 : Chg 0 0 wl10 (World.drew wl10) := Chg.zero (Chg.drew _)
  have y17 : (World.drew wl10).heap.size = wl10.heap.size := rfl
  generalize World.drew wl10 = w17 at *
  have zw17 := d17.size
  refine dt 0 rfl rfl rfl rfl s17 (fun _ hS => px_move rfl) ?_
  refine dt 1 rfl rfl rfl rfl s17 (fun _ hS => px_move rfl) ?_
  refine dt 2 rfl rfl rfl rfl s17 (fun _ hS => px_index1 (j := (k - 1)) rfl rfl (by omega) Try.underlying23 Try.sizeOf3 ((f15).chg hS (by omega)) (by omega)) ?_
  refine dt 3 rfl rfl rfl rfl s17 (fun _ hS => px_load rfl (((f15).chg hS (by omega)).load1 (at_int (by omega)) Try.isAgg3)) ?_
  refine dt 4 rfl rfl rfl rfl s17 (fun _ hS => px_move rfl) ?_
  refine dt 5 rfl rfl rfl rfl s17 (fun _ hS => px_move rfl) ?_
  refine dt 6 rfl rfl rfl rfl s17 (fun _ hS => px_index1 (j := (k - 1)) rfl rfl (by omega) Try.underlying23 Try.sizeOf3 ((f16).chg hS (by omega)) (by omega)) ?_
  refine dt 7 rfl rfl rfl rfl s17 (fun _ hS => px_load rfl (((f16).chg hS (by omega)).load1 (at_int (by omega)) Try.isAgg3)) ?_
  refine dt 8 rfl rfl rfl rfl s17 (fun _ hS => px_ne rfl rfl) ?_
  refine dx_done (by kernel_rfl) ?_
  refine q_n (k14 _ _ ?_)
  refine sx_condP rfl (fun h83 => ?_) (fun h83 => ?_)
  ·
   refine sx_seq fun K18 k18 => ?_
   refine sx_seq fun K19 k19 => ?_
   have f20 := f15.ext d17
   have f21 := f16.ext d17
   refine dx_region (fun w' => Chg 0 0 w17 w') (by kernel_rfl) (Chg.zero (Chg.drew _)) ?_
   have d22 := Chg.drew w17
   have s22 : Chg 0 0 w17 (World.drew w17) := Chg.zero (Chg.drew _)
   have y22 : (World.drew w17).heap.size = w17.heap.size := rfl
   generalize World.drew w17 = w22 at *
   have zw22 := d22.size
   refine dt 0 rfl rfl rfl rfl s22 (fun _ hS => px_move rfl) ?_
   refine dt 1 rfl rfl rfl rfl s22 (fun _ hS => px_move rfl) ?_
   refine dt 2 rfl rfl rfl rfl s22 (fun _ hS => px_index1 (j := (k - 1)) rfl rfl (by omega) Try.underlying23 Try.sizeOf3 ((f20).chg hS (by omega)) (by omega)) ?_
   refine dt 3 rfl rfl rfl rfl s22 (fun _ hS => px_load rfl (((f20).chg hS (by omega)).load1 (at_int (by omega)) Try.isAgg3)) ?_
   refine dt 4 rfl rfl rfl rfl s22 (fun _ hS => px_move rfl) ?_
   refine dt 5 rfl rfl rfl rfl s22 (fun _ hS => px_move rfl) ?_
   refine dt 6 rfl rfl rfl rfl s22 (fun _ hS => px_index1 (j := (k - 1)) rfl rfl (by omega) Try.underlying23 Try.sizeOf3 ((f21).chg hS (by omega)) (by omega)) ?_
   refine dt 7 rfl rfl rfl rfl s22 (fun _ hS => px_load rfl (((f21).chg hS (by omega)).load1 (at_int (by omega)) Try.isAgg3)) ?_
   refine dt 8 rfl rfl rfl rfl s22 (fun _ hS => px_lt rfl rfl) ?_
   refine dx_done (by kernel_rfl) ?_
   refine q_n (k19 _ _ ?_)
   refine sx_sub (Sub.c 0 rfl (.c 1 rfl (.c 5 rfl (.c 40 rfl .nil)))) ?_
   refine sx_condP rfl (fun h84 => ?_) (fun h84 => ?_)
   ·
    refine sx_seq fun K23 k23 => sx_region ?_
    refine av rfl rfl (wl_nil (q_n (k23 _ _ ?_)))
    refine sx_retc ?_
    refine q_r (q_br (q_r (q_r (q_br (q_r (sx_ret1 Try.results35 rfl ?_))))))
    have hlt := cmpL_lt hl (k := k - 1) (by omega) (by rw [Nat.sub_add_cancel (by omega)]; exact he) (h84)
    exact ⟨iEq hlt.symm, ((cwl10.t d17).t d22)⟩
   refine sx_skip ?_
   refine q_n (k18 _ _ ?_)
   refine sx_seq fun K24 k24 => sx_region ?_
   refine av rfl rfl (wl_nil (q_n (k24 _ _ ?_)))
   refine sx_retc ?_
   refine q_br (q_r (q_r (q_br (q_r (sx_ret1 Try.results35 rfl ?_)))))
   have hlt := cmpL_gt hl (k := k - 1) (by omega) (by rw [Nat.sub_add_cancel (by omega)]; exact he) (by omega)
   exact ⟨iEq hlt.symm, ((cwl10.t d17).t d22)⟩
  refine sx_skip ?_
  refine q_bn (q_n (k13 _ _ ?_))
  refine sx_region ?_
  refine mv rfl rfl (sp rfl (px_sub rfl rfl (by omega)) ?_)
  refine av rfl rfl (wl_nil ?_)
  exact fun a ha => ⟨_, by omega, (k - 1), ha.sub (Sub.c 0 rfl (.c 1 rfl (.c 5 (look_int (t := 5) rfl (by first | omega | simp)) .nil))), (cwl10.t d17), rfl, by omega, drop_succ_eq (by omega) (by omega) (by rw [Nat.sub_add_cancel (by omega)]; exact he) (by omega)⟩
 refine sx_exit ?_
 refine q_e (q_e (q_bx (q_n (k8 _ _ ?_))))
 refine sx_seq fun K25 k25 => sx_region ?_
 refine av rfl rfl (wl_nil (q_n (k25 _ _ ?_)))
 refine sx_retc ?_
 refine sx_ret1 Try.results35 rfl ?_
 have e1 : k = 0 := by omega
 subst e1
 have e2 : zs = ys := by simpa using he
 subst e2
 exact ⟨iEq (cmpL_self zs).symm, cwl10⟩

theorem c_isNaN {w : World} {x : Int} :
  Ret Try.prog 71 [.int .i64 x] w fun v w' => v = .bool (false) ∧ Chg 0 0 w w' := by
 refine sx_enter Try.func71 rfl Try.ntmps71 (nbl rfl) ?_
 refine sx_seq fun K1 k1 => sx_region ?_
 refine av rfl rfl (wl_nil (q_n (k1 _ _ ?_)))
 refine sx_seq fun K2 k2 => sx_region ?_
 refine mv rfl rfl (mv rfl rfl (sp rfl (px_ne rfl rfl) ?_))
 refine av rfl rfl (wl_nil (q_n (k2 _ _ ?_)))
 refine sx_retc ?_
 refine sx_ret1 Try.results71 rfl ?_
 exact ⟨(by simp), (Chg.refl 0 0 _)⟩

theorem c_compare {w : World} {x : Int} {y : Int} :
  Ret Try.prog 36 [.int .i64 x, .int .i64 y] w fun v w' => v = .int .i64 (cmpI x y) ∧ Chg 0 0 w w' := by
 refine sx_enter Try.func36 rfl Try.ntmps36 (nbl rfl) ?_
 refine sx_seq fun K1 k1 => sx_region ?_
 refine av rfl rfl (wl_nil (q_n (k1 _ _ ?_)))
 refine sx_seq fun K2 k2 => sx_region ?_
 refine mv rfl rfl (sx_call rfl rfl Try.call71 (c_isNaN) (fun v3 w3 p3 => ?_))
 obtain ⟨rfl, c3⟩ := p3
 have zw3 := c3.size
 refine av rfl rfl (wl_nil (q_n (k2 _ _ ?_)))
 refine sx_seq fun K4 k4 => sx_region ?_
 refine mv rfl rfl (sx_call rfl rfl Try.call71 (c_isNaN) (fun v5 w5 p5 => ?_))
 obtain ⟨rfl, c5⟩ := p5
 have zw5 := c5.size
 refine av rfl rfl (wl_nil (q_n (k4 _ _ ?_)))
 refine sx_seq fun K6 k6 => ?_
 refine sx_seq fun K7 k7 => sx_region ?_
 refine mv rfl rfl (wl_nil (q_n (k7 _ _ ?_)))
 refine sx_condF rfl ?_
 refine sx_skip ?_
 refine q_n (k6 _ _ ?_)
 refine sx_seq fun K8 k8 => ?_
 refine sx_seq fun K9 k9 => sx_region ?_
 refine mv rfl rfl (wl_nil (q_n (k9 _ _ ?_)))
 refine sx_condF rfl ?_
 refine sx_skip ?_
 refine q_n (k8 _ _ ?_)
 refine sx_seq fun K10 k10 => ?_
 refine sx_seq fun K11 k11 => sx_region ?_
 refine mv rfl rfl (mv rfl rfl (sp rfl (px_lt rfl rfl) ?_))
 refine wl_nil (q_n (k11 _ _ ?_))
 refine sx_condP rfl (fun h52 => ?_) (fun h52 => ?_)
 ·
  refine sx_seq fun K12 k12 => sx_region ?_
  refine av rfl rfl (wl_nil (q_n (k12 _ _ ?_)))
  refine sx_retc ?_
  refine q_r (sx_ret1 Try.results36 rfl ?_)
  exact ⟨(by unfold cmpI; rw [if_pos h52]), (c3.t c5)⟩
 refine sx_skip ?_
 refine q_n (k10 _ _ ?_)
 refine sx_seq fun K13 k13 => ?_
 refine sx_seq fun K14 k14 => sx_region ?_
 refine mv rfl rfl (mv rfl rfl (sp rfl (px_gt rfl rfl) ?_))
 refine wl_nil (q_n (k14 _ _ ?_))
 refine sx_sub (Sub.c 4 rfl (.c 19 rfl .nil)) ?_
 refine sx_condP rfl (fun h55 => ?_) (fun h55 => ?_)
 ·
  refine sx_seq fun K15 k15 => sx_region ?_
  refine av rfl rfl (wl_nil (q_n (k15 _ _ ?_)))
  refine sx_retc ?_
  refine q_r (sx_ret1 Try.results36 rfl ?_)
  exact ⟨(by unfold cmpI; rw [if_neg (by omega), if_neg (by omega)]), (c3.t c5)⟩
 refine sx_skip ?_
 refine q_n (k13 _ _ ?_)
 refine sx_seq fun K16 k16 => sx_region ?_
 refine av rfl rfl (wl_nil (q_n (k16 _ _ ?_)))
 refine sx_retc ?_
 refine sx_ret1 Try.results36 rfl ?_
 exact ⟨(by unfold cmpI; rw [if_neg (by omega), if_pos (by omega)]), (c3.t c5)⟩

theorem c_or {w : World} {va : Value} {lva uva : Nat} {zs : List Int} (hva : Sl w lva uva va (zs)) (h2 : zs.length = 2) :
  Ret Try.prog 34 [va] w fun v w' => v = .int .i64 (orI zs) ∧ Chg 0 0 w w' := by
 have hva0 := hva.fit
 refine sx_enter Try.func34 rfl Try.ntmps34 (nbl rfl) ?_
 refine sx_seq fun K1 k1 => sx_region ?_
 refine av rfl rfl (wl_nil (q_n (k1 _ _ ?_)))
 refine sx_seq fun K2 k2 => sx_region ?_
 refine av rfl rfl (wl_nil (q_n (k2 _ _ ?_)))
 refine sx_seq fun K3 k3 => ?_
 refine sx_seq fun K4 k4 => sx_region ?_
 refine mv rfl rfl (sp rfl (px_len rfl Try.underlying23 hva0) ?_)
 refine mv rfl rfl (wl_nil (q_n (k4 _ _ ?_)))
 refine sx_block ?_
 refine sx_loop (fun mm aa w' => ∃ (k : Nat), Agr 18 [(3, .int .i64 0), (6, va), (7, .int .i64 (↑((zs).length))), (8, .int .i64 ↑k)] aa ∧ Chg 0 0 w w' ∧ (mm = 2 - k) ∧ (k ≤ 2) ∧ (∀ j, j < k → zs.getD j 0 = 0)) (_) (fun a ha => ⟨0, ha.sub (Sub.c 3 rfl (.c 6 rfl (.c 7 rfl (.c 8 (look_int (t := 8) rfl (by first | omega | simp)) .nil)))), Chg.refl _ _ _, rfl, by omega, fun j hj => by omega⟩) ?_
 rintro mm aa wl5 ⟨k, hAwl5, cwl5, hm, hk, hz⟩
 refine (show cw Try.prog 18 _ _ _ wl5 from ?_) aa hAwl5
 clear hAwl5
 have zwl5 := cwl5.size
 refine sx_seq fun K6 k6 => sx_region ?_
 refine sp rfl (px_lt rfl rfl) ?_
 refine wl_nil (q_n (k6 _ _ ?_))
 refine sx_seq fun K7 k7 => ?_
 refine sx_condP rfl (fun h71 => ?_) (fun h71 => ?_)
 ·
  refine sx_skip ?_
  refine q_n (k7 _ _ ?_)
  refine sx_seq fun K8 k8 => ?_
  refine sx_block ?_
  refine sx_seq fun K9 k9 => sx_region ?_
  have f10 := hva0.ext cwl5
  refine sp rfl (px_index1 (j := k) rfl rfl (by omega) Try.underlying23 Try.sizeOf3 f10 (by omega)) ?_
  refine sp rfl (px_load rfl (f10.load1 (at_int (by omega)) Try.isAgg3)) ?_
  refine av rfl rfl (wl_nil (q_n (k9 _ _ ?_)))
  refine sx_seq fun K11 k11 => sx_region ?_
  refine mv rfl rfl (mv rfl rfl (sp rfl (px_ne rfl rfl) ?_))
  refine wl_nil (q_n (k11 _ _ ?_))
  refine sx_condP rfl (fun h72 => ?_) (fun h72 => ?_)
  ·
   refine sx_seq fun K12 k12 => sx_region ?_
   refine mv rfl rfl (av rfl rfl (wl_nil (q_n (k12 _ _ ?_))))
   refine sx_retc ?_
   refine q_br (q_r (q_r (q_br (q_r (sx_ret1 Try.results34 rfl ?_)))))
   exact ⟨congrArg (Value.int .i64) (orI_at (by omega) hz h72), cwl5⟩
  refine sx_skip ?_
  refine q_bn (q_n (k8 _ _ ?_))
  refine sx_region ?_
  refine sp rfl (px_add rfl rfl (by omega)) ?_
  refine mv rfl rfl (wl_nil ?_)
  exact fun a ha => ⟨_, by omega, (k + 1), ha.sub (Sub.c 3 rfl (.c 6 rfl (.c 7 rfl (.c 8 (look_int (t := 8) rfl (by first | omega | simp)) .nil)))), cwl5, rfl, by omega, fun j hj => by
   rcases Nat.lt_or_ge j k with hl | hl
   · exact hz j hl
   · rw [show j = k by omega]; omega⟩
 refine sx_exit ?_
 refine q_e (q_e (q_bx (q_n (k3 _ _ ?_))))
 refine sx_seq fun K13 k13 => sx_region ?_
 refine mv rfl rfl (av rfl rfl (wl_nil (q_n (k13 _ _ ?_))))
 refine sx_retc ?_
 refine sx_ret1 Try.results34 rfl ?_
 have ek : k = 2 := by omega
 subst ek
 exact ⟨congrArg (Value.int .i64) (orI_end hz), cwl5⟩

theorem c_before {w : World} {i : Int} {va : Value} {lva uva : Nat} {m : Nat} {j : Int} {vb : Value} {lvb uvb : Nat} {n : Nat} (hva : Sl w lva uva va (dg m)) (hvb : Sl w lvb uvb vb (dg n)) (hl : (dg m).length ≤ 100 ∧ (dg n).length ≤ 100) :
  Ret Try.prog 33 [.agg #[.int .i64 i, va], .agg #[.int .i64 j, vb]] w fun v w' => v = .int .i64 (orC m n i j) ∧ Chg 0 0 w w' := by
 have hva0 := hva.fit
 have hvb0 := hvb.fit
 refine sx_enter Try.func33 rfl Try.ntmps33 (nbl rfl) ?_
 refine sx_seq fun K1 k1 => sx_region ?_
 refine sx_box [.int .i64 i, va] rfl rfl rfl (fun b2 w3 eb2 sb2 fb2 cb2 => ?_)
 have zw3 := cb2.size
 refine sx_box [.int .i64 j, vb] rfl rfl rfl (fun b4 w5 eb4 sb4 fb4 cb4 => ?_)
 have zw5 := cb4.size
 refine av rfl rfl (wl_nil (q_n (k1 _ _ ?_)))
 refine sx_seq fun K6 k6 => ?_
 have f7 := fb2.ext cb4
 have f8 := hva0.ext cb2
 have f9 := f8.ext cb4
 have f10 := hvb0.ext cb2
 have f11 := f10.ext cb4
 refine dx_region (fun w' => Chg 0 0 w5 w') (by kernel_rfl) (Chg.zero (Chg.drew _)) ?_
 have d12 := Chg.drew w5
 have s12 : Chg 0 0 w5 (World.drew w5) := Chg.zero (Chg.drew _)
 have y12 : (World.drew w5).heap.size = w5.heap.size := rfl
 generalize World.drew w5 = w12 at *
 have zw12 := d12.size
 refine dt 0 rfl rfl rfl rfl s12 (fun _ hS => px_field rfl xfld66x1) ?_
 refine dt 1 rfl rfl rfl rfl s12 (fun _ hS => px_load rfl ((fb4.chg hS (by omega)).load1 rfl Try.isAgg23)) ?_
 refine dt 2 rfl rfl rfl rfl s12 (fun _ hS => px_field rfl xfld66x1) ?_
 refine dt 3 rfl rfl rfl rfl s12 (fun _ hS => px_load rfl ((f7.chg hS (by omega)).load1 rfl Try.isAgg23)) ?_
 refine dt 5 rfl rfl rfl rfl s12 (fun _ hS => px_field rfl xfld66x0) ?_
 refine dt 6 rfl rfl rfl rfl s12 (fun _ hS => px_load rfl ((f7.chg hS (by omega)).load1 rfl Try.isAgg3)) ?_
 refine dt 7 rfl rfl rfl rfl s12 (fun _ hS => px_field rfl xfld66x0) ?_
 refine dt 8 rfl rfl rfl rfl s12 (fun _ hS => px_load rfl ((fb4.chg hS (by omega)).load1 rfl Try.isAgg3)) ?_
 refine dx_eff 4 rfl (by kernel_rfl) ?_
 have f13 := f11.ext d12
 have f14 := f9.ext d12
 refine sx_call rfl rfl Try.call35 (c_natCmp f13 f14 (by omega)) (fun v15 w15 p15 => ?_)
 obtain ⟨rfl, c15⟩ := p15
 have zw15 := c15.size
 have s16 : Chg 0 0 w5 w15 := (d12.t c15)
 refine wl_nil ?_
 refine dx_next s16 ?_
 refine dx_eff 9 rfl (by kernel_rfl) ?_
 refine sx_call rfl rfl Try.call36 (c_compare) (fun v17 w17 p17 => ?_)
 obtain ⟨rfl, c17⟩ := p17
 have zw17 := c17.size
 have s18 : Chg 0 0 w5 w17 := ((d12.t c15).t c17)
 refine wl_nil ?_
 refine dx_next s18 ?_
 refine dx_eff 10 rfl (by kernel_rfl) ?_
 refine sx_lit2 rfl xelt23 rfl rfl rfl rfl (fun s19 ws19 ss19 fs19 cs19 => ?_)
 have ns19 := Own.norm (f := (Value.int .i64)) (zs := [cmpL (dg n) (dg m), cmpI i j]) fs19
 have zws19 := cs19.size
 have s20 : Chg 0 0 w5 ws19 := (((d12.t c15).t c17).t cs19)
 refine wl_nil ?_
 refine dx_next s20 ?_
 refine dx_eff 11 rfl (by kernel_rfl) ?_
 refine sx_call rfl rfl Try.call34 (c_or ns19.sv (rfl)) (fun v21 w21 p21 => ?_)
 obtain ⟨rfl, c21⟩ := p21
 have zw21 := c21.size
 have s22 : Chg 0 0 w5 w21 := ((((d12.t c15).t c17).t cs19).t c21)
 refine wl_nil ?_
 refine dx_next s22 ?_
 refine dt 12 rfl rfl rfl rfl s22 (fun _ hS => px_assign rfl) ?_
 refine dx_done (by kernel_rfl) ?_
 refine q_n (k6 _ _ ?_)
 refine sx_sub (Sub.c 4 rfl .nil) ?_
 refine sx_retc ?_
 refine sx_ret1 Try.results33 rfl ?_
 rw [cmpL_dg]
 exact ⟨rfl, ((((((cb2.t cb4).t d12).t c15).t c17).t cs19).t c21)⟩

theorem c_insSort {w : World} {vd : Value} {lvd uvd tvd : Nat} {ix : List Nat} {ps : List Value} {r : Nat → Nat} {a : Int} {b : Int} (hvd : PtO w lvd uvd tvd vd 66 ix ps r) (ha : a = 0 ∧ b = (ix.length : Int) ∧ 1 ≤ ix.length ∧ ix.length ≤ 1000) (hP : ix.Perm (List.range ix.length)) (hr : ∀ i, (dg (r i)).length ≤ 100) :
  Ret Try.prog 102 [vd, .int .i64 a, .int .i64 b, .func (.func 33) #[] #[]] w fun v w' => ∃ ix2, v = .tuple #[] ∧ PtO w' (lvd) (uvd) (tvd) vd 66 (ix2) ps r ∧ ((ix2).Perm (List.range (ix).length)) ∧ (SortTo r ix2 (ix).length) ∧ Chg lvd uvd w w' := by
 refine sx_enter Try.func102 rfl Try.ntmps102 (nbl rfl) ?_
 refine sx_seq fun K1 k1 => sx_region ?_
 refine mv rfl rfl (sp rfl (px_add rfl rfl (by omega)) ?_)
 refine av rfl rfl (wl_nil (q_n (k1 _ _ ?_)))
 refine sx_block ?_
 refine sx_loop (fun mm aa w' => ∃ (i : Nat) (iy : List Nat), Agr 53 [(0, vd), (1, .int .i64 a), (2, .int .i64 b), (3, .func (.func 33) #[] #[]), (8, .int .i64 ↑i)] aa ∧ Chg lvd uvd w w' ∧ PtO w' lvd uvd tvd vd 66 iy ps r ∧ (mm = ix.length - i) ∧ (1 ≤ i ∧ i ≤ ix.length) ∧ (iy.length = ix.length) ∧ (iy.Perm (List.range ix.length)) ∧ (SortTo r iy i)) (_) (fun a ha => ⟨1, ix, ha.sub (Sub.c 0 rfl (.c 1 rfl (.c 2 rfl (.c 3 rfl (.c 8 (look_int (t := 8) rfl (by first | omega | simp)) .nil))))), Chg.refl _ _ _, hvd, rfl, by omega, rfl, hP, sort_one⟩) ?_
 rintro mm aa wl2 ⟨i, iy, hAwl2, cwl2, hs_vd, hm, hi, hly, hPi, hSi⟩
 refine (show cw Try.prog 53 _ _ _ wl2 from ?_) aa hAwl2
 clear hAwl2
 have zwl2 := cwl2.size
 refine sx_seq fun K3 k3 => ?_
 refine sx_seq fun K4 k4 => sx_region ?_
 refine mv rfl rfl (mv rfl rfl (sp rfl (px_lt rfl rfl) ?_))
 refine wl_nil (q_n (k4 _ _ ?_))
 refine sx_condP rfl (fun h11 => ?_) (fun h11 => ?_)
 ·
  refine sx_skip ?_
  refine q_n (k3 _ _ ?_)
  refine sx_seq fun K5 k5 => ?_
  refine sx_block ?_
  refine sx_seq fun K6 k6 => sx_region ?_
  refine mv rfl rfl (av rfl rfl (wl_nil (q_n (k6 _ _ ?_))))
  refine sx_block ?_
  refine sx_loop (fun mm aa w' => ∃ (j : Nat) (iz : List Nat), Agr 53 [(0, vd), (1, .int .i64 a), (2, .int .i64 b), (3, .func (.func 33) #[] #[]), (8, .int .i64 ↑i), (9, .int .i64 ↑j)] aa ∧ Chg lvd uvd wl2 w' ∧ PtO w' lvd uvd tvd vd 66 iz ps r ∧ (mm = j) ∧ (j ≤ i) ∧ (iz.length = ix.length) ∧ (iz.Perm (List.range ix.length)) ∧ (InsTo r iz i j)) (_) (fun a ha => ⟨i, iy, ha.sub (Sub.c 0 rfl (.c 1 rfl (.c 2 rfl (.c 3 rfl (.c 8 rfl (.c 9 (look_int (t := 9) rfl (by first | omega | simp)) .nil)))))), Chg.refl _ _ _, hs_vd, rfl, by omega, hly, hPi, ins_start hSi⟩) ?_
  rintro mm aa wl7 ⟨j, iz, hAwl7, cwl7, hs_vd, hm, hj, hlz, hPz, hI⟩
  refine (show cw Try.prog 53 _ _ _ wl7 from ?_) aa hAwl7
  clear hAwl7
  have zwl7 := cwl7.size
  refine sx_seq fun K8 k8 => ?_
  refine sx_seq fun K9 k9 => ?_
  by_cases ph12 : a < (j : Int)
  ·
   refine dx_region (fun w' => Chg 0 0 wl7 w') (by kernel_rfl) (Chg.zero (Chg.drew _)) ?_
   have d10 := Chg.drew wl7
   have s10 : Chg 0 0 wl7 (World.drew wl7) := Chg.zero (Chg.drew _)
   have y10 : (World.drew wl7).heap.size = wl7.heap.size := rfl
   generalize World.drew wl7 = w10 at *
   have zw10 := d10.size
   refine dt 0 rfl rfl rfl rfl s10 (fun _ hS => px_move rfl) ?_
   refine dt 1 rfl rfl rfl rfl s10 (fun _ hS => px_move rfl) ?_
   refine dt 2 rfl rfl rfl rfl s10 (fun _ hS => px_gt rfl rfl) ?_
   refine dt 3 rfl rfl rfl rfl s10 (fun _ hS => px_move rfl) ?_
   have h12 : (a : Int) < ↑j := by first | omega | exact ph12
   refine dx_tmpPT (t := 21) rfl h12 ?_
   refine dx_takeG 4 rfl rfl rfl rfl rfl rfl (by kernel_rfl) (by kernel_rfl) (by kernel_rfl) s10 (fun _ hS => px_move rfl) ?_
   refine dx_takeG 5 rfl rfl rfl rfl rfl rfl (by kernel_rfl) (by kernel_rfl) (by kernel_rfl) s10 (fun _ hS => px_move rfl) ?_
   refine dx_takeG 6 rfl rfl rfl rfl rfl rfl (by kernel_rfl) (by kernel_rfl) (by kernel_rfl) s10 (fun _ hS => px_move rfl) ?_
   refine dx_takeG 7 rfl rfl rfl rfl rfl rfl (by kernel_rfl) (by kernel_rfl) (by kernel_rfl) s10 (fun _ hS => px_indexK (j := j) rfl rfl (by omega) Try.underlying61 Try.sizeOf66 ((hs_vd.sv).chg hS (by omega)) (by omega)) ?_
   refine dx_takeG 8 rfl rfl rfl rfl rfl rfl (by kernel_rfl) (by kernel_rfl) (by kernel_rfl) s10 (fun _ hS => px_load rfl (((hs_vd.sv).chg hS (by omega)).loadA (pt_look (by first | omega | (simp only [List.length_set]; omega))) Try.isAgg66 Try.sizeOf66)) ?_
   refine dx_takeG 9 rfl rfl rfl rfl rfl rfl (by kernel_rfl) (by kernel_rfl) (by kernel_rfl) s10 (fun _ hS => px_move rfl) ?_
   refine dx_takeG 10 rfl rfl rfl rfl rfl rfl (by kernel_rfl) (by kernel_rfl) (by kernel_rfl) s10 (fun _ hS => px_move rfl) ?_
   refine dx_takeG 11 rfl rfl rfl rfl rfl rfl (by kernel_rfl) (by kernel_rfl) (by kernel_rfl) s10 (fun _ hS => px_sub rfl rfl (by omega)) ?_
   refine dx_takeG 12 rfl rfl rfl rfl rfl rfl (by kernel_rfl) (by kernel_rfl) (by kernel_rfl) s10 (fun _ hS => px_indexK (j := (j - 1)) rfl rfl (by omega) Try.underlying61 Try.sizeOf66 ((hs_vd.sv).chg hS (by omega)) (by omega)) ?_
   refine dx_takeG 13 rfl rfl rfl rfl rfl rfl (by kernel_rfl) (by kernel_rfl) (by kernel_rfl) s10 (fun _ hS => px_load rfl (((hs_vd.sv).chg hS (by omega)).loadA (pt_look (by first | omega | (simp only [List.length_set]; omega))) Try.isAgg66 Try.sizeOf66)) ?_
   refine dx_eff 14 rfl (by kernel_rfl) ?_
   refine sx_guardT rfl rfl rfl ?_
   have f11 := (hs_vd.rest (j := j) (by first | omega | (simp only [List.length_set]; omega))).ext d10
   have f12 := (hs_vd.rest (j := j - 1) (by first | omega | (simp only [List.length_set]; omega))).ext d10
   refine sx_callV rfl rfl rfl Try.call33 (c_before f11 f12 (⟨hr _, hr _⟩)) (fun v13 w13 p13 => ?_)
   obtain ⟨rfl, c13⟩ := p13
   have zw13 := c13.size
   have s14 : Chg 0 0 wl7 w13 := (d10.t c13)
   refine wl_nil ?_
   refine dx_next s14 ?_
   refine dx_takeG 15 rfl rfl rfl rfl rfl rfl (by kernel_rfl) (by kernel_rfl) (by kernel_rfl) s14 (fun _ hS => px_lt rfl rfl) ?_
   refine dt 16 rfl rfl rfl rfl s14 (fun _ hS => px_pick rfl rfl) ?_
   refine dx_done (by kernel_rfl) ?_
   refine q_n (k9 _ _ ?_)
   refine sx_sub (Sub.c 0 rfl (.c 1 rfl (.c 2 rfl (.c 3 rfl (.c 8 rfl (.c 9 rfl (.c 34 rfl .nil))))))) ?_
   refine sx_condP rfl (fun h12x1 => ?_) (fun h12x1 => ?_)
   ·
    refine sx_skip ?_
    refine q_n (k8 _ _ ?_)
    refine sx_seq fun K15 k15 => ?_
    refine sx_block ?_
    have f17 := (hs_vd.ext d10).ext c13
    have f18 := f11.ext c13
    have f19 := f12.ext c13
    refine dx_region (fun w' => Chg lvd (uvd) w13 w') (by kernel_rfl) (Chg.zero (Chg.drew _)) ?_
    have d20 := Chg.drew w13
    have s20 : Chg lvd (uvd) w13 (World.drew w13) := Chg.zero (Chg.drew _)
    have y20 : (World.drew w13).heap.size = w13.heap.size := rfl
    generalize World.drew w13 = w20 at *
    have zw20 := d20.size
    refine dt 0 rfl rfl rfl rfl s20 (fun _ hS => px_move rfl) ?_
    refine dt 1 rfl rfl rfl rfl s20 (fun _ hS => px_move rfl) ?_
    refine dt 2 rfl rfl rfl rfl s20 (fun _ hS => px_move rfl) ?_
    refine dt 3 rfl rfl rfl rfl s20 (fun _ hS => px_move rfl) ?_
    refine dt 4 rfl rfl rfl rfl s20 (fun _ hS => px_sub rfl rfl (by omega)) ?_
    refine dt 5 rfl rfl rfl rfl s20 (fun _ hS => px_move rfl) ?_
    refine dt 6 rfl rfl rfl rfl s20 (fun _ hS => px_move rfl) ?_
    refine dt 7 rfl rfl rfl rfl s20 (fun _ hS => px_sub rfl rfl (by omega)) ?_
    refine dt 8 rfl rfl rfl rfl s20 (fun _ hS => px_indexKw (j := (j - 1)) rfl rfl (by omega) Try.underlying61 Try.sizeOf66 f17.sv (by omega)) ?_
    refine dt 10 rfl rfl rfl rfl s20 (fun _ hS => px_move rfl) ?_
    refine dt 11 rfl rfl rfl rfl s20 (fun _ hS => px_move rfl) ?_
    refine dt 12 rfl rfl rfl rfl s20 (fun _ hS => px_indexKw (j := j) rfl rfl (by omega) Try.underlying61 Try.sizeOf66 f17.sv (by omega)) ?_
    refine dx_eff2 9 13 rfl rfl (by kernel_rfl) ?_ ?_
    ·
     have f21 := f17.ext d20
     refine sp rfl (px_load rfl (f21.sv.loadA (pt_look (by first | omega | (simp only [List.length_set]; omega))) Try.isAgg66 Try.sizeOf66)) ?_
     have s22 : Chg lvd (uvd) w13 w20 := (Chg.zero (l := lvd) (h := (uvd)) (d20))
     refine wl_nil ?_
     refine dx_next s22 ?_
     refine dx_eff 13 rfl (by kernel_rfl) ?_
     refine sp rfl (px_load rfl (f21.sv.loadA (pt_look (by first | omega | (simp only [List.length_set]; omega))) Try.isAgg66 Try.sizeOf66)) ?_
     have s23 : Chg lvd (uvd) w13 w20 := (Chg.zero (l := lvd) (h := (uvd)) (d20))
     refine wl_nil ?_
     refine dx_next s23 ?_
     refine dt 14 rfl rfl rfl rfl s23 (fun _ hS => px_indexKw (j := j) rfl rfl (by omega) Try.underlying61 Try.sizeOf66 f17.sv (by omega)) ?_
     refine dx_eff 15 rfl (by kernel_rfl) ?_
     refine sx_storePt (j := j) (a := (iz.getD (j - 1) 0)) rfl rfl f21 (by first | omega | (simp only [List.length_set]; omega)) (f21.lt (j := j - 1) (by first | omega | (simp only [List.length_set]; omega))) Try.sizeOf66 (fun w24 sw24 fw24 cw24 => ?_)
     have zw24 := cw24.size
     have q26 := Chg.step (l := lvd) (h := (uvd)) (Chg.zero (l := lvd) (h := (uvd)) d20) cw24 (by omega)
     have s25 : Chg lvd (uvd) w13 w24 := q26
     refine wl_nil ?_
     refine dx_next s25 ?_
     refine dt 16 rfl rfl rfl rfl s25 (fun _ hS => px_indexKw (j := (j - 1)) rfl rfl (by omega) Try.underlying61 Try.sizeOf66 f17.sv (by omega)) ?_
     refine dx_eff 17 rfl (by kernel_rfl) ?_
     refine sx_storePt (j := j - 1) (a := (iz.getD j 0)) rfl rfl fw24 (by first | omega | (simp only [List.length_set]; omega)) (f21.lt (j := j) (by first | omega | (simp only [List.length_set]; omega))) Try.sizeOf66 (fun w27 sw27 fw27 cw27 => ?_)
     have zw27 := cw27.size
     have q29 := Chg.step (l := lvd) (h := (uvd)) (Chg.zero (l := lvd) (h := (uvd)) d20) cw24 (by omega)
     have q30 := Chg.step (l := lvd) (h := (uvd)) q29 cw27 (by omega)
     have s28 : Chg lvd (uvd) w13 w27 := q30
     refine wl_nil ?_
     refine dx_next s28 ?_
     refine dx_done (by kernel_rfl) ?_
     refine q_bn (q_n (k15 _ _ ?_))
     refine sx_sub (Sub.c 0 rfl (.c 1 rfl (.c 2 rfl (.c 3 rfl (.c 8 rfl (.c 9 rfl .nil)))))) ?_
     refine sx_region ?_
     refine mv rfl rfl (sp rfl (px_sub rfl rfl (by omega)) ?_)
     refine av rfl rfl (wl_nil ?_)
     have q31 := Chg.step (l := lvd) (h := uvd) cwl7 ((d10.t c13).t d20) (by omega)
     have q32 := Chg.step (l := lvd) (h := uvd) q31 cw24 (by omega)
     have q33 := Chg.step (l := lvd) (h := uvd) q32 cw27 (by omega)
     exact fun a ha => ⟨_, by omega, (j - 1), ((iz.set j (iz.getD (j - 1) 0)).set (j - 1) (iz.getD j 0)), ha.sub (Sub.c 0 rfl (.c 1 rfl (.c 2 rfl (.c 3 rfl (.c 8 rfl (.c 9 (look_int (t := 9) rfl (by first | omega | simp)) .nil)))))), q33, fw27, rfl, by omega, by simp only [List.length_set]; exact hlz, (swp_perm (by omega) (by omega)).trans hPz, ins_step hI (by omega) hj (by omega) (orC_neg.1 h12x1)⟩
    have f34 := f17.ext d20
    refine sp rfl (px_load rfl (f34.sv.loadA (pt_look (by first | omega | (simp only [List.length_set]; omega))) Try.isAgg66 Try.sizeOf66)) ?_
    have s35 : Chg lvd (uvd) w13 w20 := (Chg.zero (l := lvd) (h := (uvd)) (d20))
    refine wl_nil ?_
    refine dx_next s35 ?_
    refine dx_eff 9 rfl (by kernel_rfl) ?_
    refine sp rfl (px_load rfl (f34.sv.loadA (pt_look (by first | omega | (simp only [List.length_set]; omega))) Try.isAgg66 Try.sizeOf66)) ?_
    have s36 : Chg lvd (uvd) w13 w20 := (Chg.zero (l := lvd) (h := (uvd)) (d20))
    refine wl_nil ?_
    refine dx_next s36 ?_
    refine dt 14 rfl rfl rfl rfl s36 (fun _ hS => px_indexKw (j := j) rfl rfl (by omega) Try.underlying61 Try.sizeOf66 f17.sv (by omega)) ?_
    refine dx_eff 15 rfl (by kernel_rfl) ?_
    refine sx_storePt (j := j) (a := (iz.getD (j - 1) 0)) rfl rfl f34 (by first | omega | (simp only [List.length_set]; omega)) (f34.lt (j := j - 1) (by first | omega | (simp only [List.length_set]; omega))) Try.sizeOf66 (fun w37 sw37 fw37 cw37 => ?_)
    have zw37 := cw37.size
    have q39 := Chg.step (l := lvd) (h := (uvd)) (Chg.zero (l := lvd) (h := (uvd)) d20) cw37 (by omega)
    have s38 : Chg lvd (uvd) w13 w37 := q39
    refine wl_nil ?_
    refine dx_next s38 ?_
    refine dt 16 rfl rfl rfl rfl s38 (fun _ hS => px_indexKw (j := (j - 1)) rfl rfl (by omega) Try.underlying61 Try.sizeOf66 f17.sv (by omega)) ?_
    refine dx_eff 17 rfl (by kernel_rfl) ?_
    refine sx_storePt (j := j - 1) (a := (iz.getD j 0)) rfl rfl fw37 (by first | omega | (simp only [List.length_set]; omega)) (f34.lt (j := j) (by first | omega | (simp only [List.length_set]; omega))) Try.sizeOf66 (fun w40 sw40 fw40 cw40 => ?_)
    have zw40 := cw40.size
    have q42 := Chg.step (l := lvd) (h := (uvd)) (Chg.zero (l := lvd) (h := (uvd)) d20) cw37 (by omega)
    have q43 := Chg.step (l := lvd) (h := (uvd)) q42 cw40 (by omega)
    have s41 : Chg lvd (uvd) w13 w40 := q43
    refine wl_nil ?_
    refine dx_next s41 ?_
    refine dx_done (by kernel_rfl) ?_
    refine q_bn (q_n (k15 _ _ ?_))
    refine sx_sub (Sub.c 0 rfl (.c 1 rfl (.c 2 rfl (.c 3 rfl (.c 8 rfl (.c 9 rfl .nil)))))) ?_
    refine sx_region ?_
    refine mv rfl rfl (sp rfl (px_sub rfl rfl (by omega)) ?_)
    refine av rfl rfl (wl_nil ?_)
    have q44 := Chg.step (l := lvd) (h := uvd) cwl7 ((d10.t c13).t d20) (by omega)
    have q45 := Chg.step (l := lvd) (h := uvd) q44 cw37 (by omega)
    have q46 := Chg.step (l := lvd) (h := uvd) q45 cw40 (by omega)
    exact fun a ha => ⟨_, by omega, (j - 1), ((iz.set j (iz.getD (j - 1) 0)).set (j - 1) (iz.getD j 0)), ha.sub (Sub.c 0 rfl (.c 1 rfl (.c 2 rfl (.c 3 rfl (.c 8 rfl (.c 9 (look_int (t := 9) rfl (by first | omega | simp)) .nil)))))), q46, fw40, rfl, by omega, by simp only [List.length_set]; exact hlz, (swp_perm (by omega) (by omega)).trans hPz, ins_step hI (by omega) hj (by omega) (orC_neg.1 h12x1)⟩
   refine sx_exit ?_
   refine q_e (q_e (q_bx (q_bn (q_n (k5 _ _ ?_)))))
   refine sx_region ?_
   refine mv rfl rfl (sp rfl (px_add rfl rfl (by omega)) ?_)
   refine av rfl rfl (wl_nil ?_)
   have q47 := Chg.step (l := lvd) (h := uvd) cwl2 cwl7 (by omega)
   have q48 := Chg.step (l := lvd) (h := uvd) q47 (d10.t c13) (by omega)
   have f50 := (hs_vd.ext d10).ext c13
   exact fun a ha => ⟨_, by omega, (i + 1), iz, ha.sub (Sub.c 0 rfl (.c 1 rfl (.c 2 rfl (.c 3 rfl (.c 8 (look_int (t := 8) rfl (by first | omega | simp)) .nil))))), q48, f50, rfl, by omega, hlz, hPz, ins_done hI hPz hj (by omega) (fun h => by first | (exfalso; omega) | exact fun hb => h12x1 (orC_neg.2 hb))⟩
  refine dx_region (fun w' => Chg 0 0 wl7 w') (by kernel_rfl) (Chg.zero (Chg.drew _)) ?_
  have d51 := Chg.drew wl7
  have s51 : Chg 0 0 wl7 (World.drew wl7) := Chg.zero (Chg.drew _)
  have y51 : (World.drew wl7).heap.size = wl7.heap.size := rfl
  generalize World.drew wl7 = w51 at *
  have zw51 := d51.size
  refine dt 0 rfl rfl rfl rfl s51 (fun _ hS => px_move rfl) ?_
  refine dt 1 rfl rfl rfl rfl s51 (fun _ hS => px_move rfl) ?_
  refine dt 2 rfl rfl rfl rfl s51 (fun _ hS => px_gt rfl rfl) ?_
  refine dt 3 rfl rfl rfl rfl s51 (fun _ hS => px_move rfl) ?_
  have h12 : ¬ ((a : Int) < ↑j) := by first | omega | exact ph12
  refine dx_tmpPF (t := 21) rfl h12 ?_
  refine dx_skip 4 rfl rfl rfl rfl rfl rfl rfl (by kernel_rfl) (by kernel_rfl) (by kernel_rfl) s51 ?_
  refine dx_skip 5 rfl rfl rfl rfl rfl rfl rfl (by kernel_rfl) (by kernel_rfl) (by kernel_rfl) s51 ?_
  refine dx_skip 6 rfl rfl rfl rfl rfl rfl rfl (by kernel_rfl) (by kernel_rfl) (by kernel_rfl) s51 ?_
  refine dx_skip 7 rfl rfl rfl rfl rfl rfl rfl (by kernel_rfl) (by kernel_rfl) (by kernel_rfl) s51 ?_
  refine dx_skip 8 rfl rfl rfl rfl rfl rfl rfl (by kernel_rfl) (by kernel_rfl) (by kernel_rfl) s51 ?_
  refine dx_skip 9 rfl rfl rfl rfl rfl rfl rfl (by kernel_rfl) (by kernel_rfl) (by kernel_rfl) s51 ?_
  refine dx_skip 10 rfl rfl rfl rfl rfl rfl rfl (by kernel_rfl) (by kernel_rfl) (by kernel_rfl) s51 ?_
  refine dx_skip 11 rfl rfl rfl rfl rfl rfl rfl (by kernel_rfl) (by kernel_rfl) (by kernel_rfl) s51 ?_
  refine dx_skip 12 rfl rfl rfl rfl rfl rfl rfl (by kernel_rfl) (by kernel_rfl) (by kernel_rfl) s51 ?_
  refine dx_skip 13 rfl rfl rfl rfl rfl rfl rfl (by kernel_rfl) (by kernel_rfl) (by kernel_rfl) s51 ?_
  refine dx_skip 14 rfl rfl rfl rfl rfl rfl rfl (by kernel_rfl) (by kernel_rfl) (by kernel_rfl) s51 ?_
  refine dx_skip 15 rfl rfl rfl rfl rfl rfl rfl (by kernel_rfl) (by kernel_rfl) (by kernel_rfl) s51 ?_
  refine dt 16 rfl rfl rfl rfl s51 (fun _ hS => px_pick rfl rfl) ?_
  refine dx_done (by kernel_rfl) ?_
  refine q_n (k9 _ _ ?_)
  refine sx_sub (Sub.c 0 rfl (.c 1 rfl (.c 2 rfl (.c 3 rfl (.c 8 rfl (.c 9 rfl (.c 34 rfl .nil))))))) ?_
  refine sx_condF rfl ?_
  refine sx_exit ?_
  refine q_e (q_e (q_bx (q_bn (q_n (k5 _ _ ?_)))))
  refine sx_region ?_
  refine mv rfl rfl (sp rfl (px_add rfl rfl (by omega)) ?_)
  refine av rfl rfl (wl_nil ?_)
  have q52 := Chg.step (l := lvd) (h := uvd) cwl2 cwl7 (by omega)
  have q53 := Chg.step (l := lvd) (h := uvd) q52 d51 (by omega)
  have f54 := hs_vd.ext d51
  exact fun a ha => ⟨_, by omega, (i + 1), iz, ha.sub (Sub.c 0 rfl (.c 1 rfl (.c 2 rfl (.c 3 rfl (.c 8 (look_int (t := 8) rfl (by first | omega | simp)) .nil))))), q53, f54, rfl, by omega, hlz, hPz, ins_done hI hPz hj (by omega) (fun h => by first | (exfalso; omega) | exact fun hb => h12x1 (orC_neg.2 hb))⟩
 refine sx_exit ?_
 refine q_e (q_e (q_bx (sx_end0 rfl ?_)))
 have ei : i = ix.length := by omega
 subst ei
 exact ⟨_, rfl, hs_vd, hPi, hSi, cwl2⟩

theorem c_insSortE {w : World} {vd : Value} {lvd uvd tvd : Nat} {ix : List Nat} {ps : List Value} {r : Nat → Nat} {ia : Int} {ib : Int} (hvd : PtO w lvd uvd tvd vd 66 ix ps r) (ha : 0 ≤ ia ∧ ia ≤ ib ∧ ib ≤ (ix.length : Int) ∧ ix.length ≤ 1000) (hS : SortTo r ix ix.length) (hr : ∀ i, (dg (r i)).length ≤ 100) :
  Ret Try.prog 102 [vd, .int .i64 ia, .int .i64 ib, .func (.func 33) #[] #[]] w fun v w' => v = .tuple #[] ∧ Chg 0 0 w w' := by
 refine sx_enter Try.func102 rfl Try.ntmps102 (nbl rfl) ?_
 refine sx_seq fun K1 k1 => sx_region ?_
 refine mv rfl rfl (sp rfl (px_add rfl rfl (by omega)) ?_)
 refine av rfl rfl (wl_nil (q_n (k1 _ _ ?_)))
 refine sx_block ?_
 refine sx_loop (fun mm aa w' => ∃ (i : Nat), Agr 53 [(0, vd), (1, .int .i64 ia), (2, .int .i64 ib), (3, .func (.func 33) #[] #[]), (8, .int .i64 ↑i)] aa ∧ Chg 0 0 w w' ∧ (mm = ix.length + 1 - i) ∧ (ia + 1 ≤ (i : Int) ∧ (i : Int) ≤ ib + 1)) (_) (fun a ha => ⟨(ia + 1).toNat, ha.sub (Sub.c 0 rfl (.c 1 rfl (.c 2 rfl (.c 3 rfl (.c 8 (look_int (t := 8) rfl (by first | omega | simp)) .nil))))), Chg.refl _ _ _, rfl, by omega⟩) ?_
 rintro mm aa wl2 ⟨i, hAwl2, cwl2, hm, hi⟩
 refine (show cw Try.prog 53 _ _ _ wl2 from ?_) aa hAwl2
 clear hAwl2
 have zwl2 := cwl2.size
 refine sx_seq fun K3 k3 => ?_
 refine sx_seq fun K4 k4 => sx_region ?_
 refine mv rfl rfl (mv rfl rfl (sp rfl (px_lt rfl rfl) ?_))
 refine wl_nil (q_n (k4 _ _ ?_))
 refine sx_condP rfl (fun h11 => ?_) (fun h11 => ?_)
 ·
  refine sx_skip ?_
  refine q_n (k3 _ _ ?_)
  refine sx_seq fun K5 k5 => ?_
  refine sx_block ?_
  refine sx_seq fun K6 k6 => sx_region ?_
  refine mv rfl rfl (av rfl rfl (wl_nil (q_n (k6 _ _ ?_))))
  refine sx_block ?_
  refine sx_loop (fun mm aa w' => Agr 53 [(0, vd), (1, .int .i64 ia), (2, .int .i64 ib), (3, .func (.func 33) #[] #[]), (8, .int .i64 ↑i), (9, .int .i64 ↑i)] aa ∧ Chg 0 0 wl2 w' ∧ (mm = 0)) (_) (fun a ha => ⟨ha.sub (Sub.c 0 rfl (.c 1 rfl (.c 2 rfl (.c 3 rfl (.c 8 rfl (.c 9 rfl .nil)))))), Chg.refl _ _ _, rfl⟩) ?_
  rintro mm aa wl7 ⟨hAwl7, cwl7, hm⟩
  refine (show cw Try.prog 53 _ _ _ wl7 from ?_) aa hAwl7
  clear hAwl7
  have zwl7 := cwl7.size
  refine sx_seq fun K8 k8 => ?_
  refine sx_seq fun K9 k9 => ?_
  by_cases ph12 : ia < (i : Int)
  ·
   have f10 := hvd.ext cwl2
   have f11 := f10.ext cwl7
   refine dx_region (fun w' => Chg 0 0 wl7 w') (by kernel_rfl) (Chg.zero (Chg.drew _)) ?_
   have d12 := Chg.drew wl7
   have s12 : Chg 0 0 wl7 (World.drew wl7) := Chg.zero (Chg.drew _)
   have y12 : (World.drew wl7).heap.size = wl7.heap.size := rfl
   generalize World.drew wl7 = w12 at *
   have zw12 := d12.size
   refine dt 0 rfl rfl rfl rfl s12 (fun _ hS => px_move rfl) ?_
   refine dt 1 rfl rfl rfl rfl s12 (fun _ hS => px_move rfl) ?_
   refine dt 2 rfl rfl rfl rfl s12 (fun _ hS => px_gt rfl rfl) ?_
   refine dt 3 rfl rfl rfl rfl s12 (fun _ hS => px_move rfl) ?_
   have h12 : (ia : Int) < ↑i := by first | omega | exact ph12
   refine dx_tmpPT (t := 21) rfl h12 ?_
   refine dx_takeG 4 rfl rfl rfl rfl rfl rfl (by kernel_rfl) (by kernel_rfl) (by kernel_rfl) s12 (fun _ hS => px_move rfl) ?_
   refine dx_takeG 5 rfl rfl rfl rfl rfl rfl (by kernel_rfl) (by kernel_rfl) (by kernel_rfl) s12 (fun _ hS => px_move rfl) ?_
   refine dx_takeG 6 rfl rfl rfl rfl rfl rfl (by kernel_rfl) (by kernel_rfl) (by kernel_rfl) s12 (fun _ hS => px_move rfl) ?_
   refine dx_takeG 7 rfl rfl rfl rfl rfl rfl (by kernel_rfl) (by kernel_rfl) (by kernel_rfl) s12 (fun _ hS => px_indexK (j := i) rfl rfl (by omega) Try.underlying61 Try.sizeOf66 ((f11.sv).chg hS (by omega)) (by omega)) ?_
   refine dx_takeG 8 rfl rfl rfl rfl rfl rfl (by kernel_rfl) (by kernel_rfl) (by kernel_rfl) s12 (fun _ hS => px_load rfl (((f11.sv).chg hS (by omega)).loadA (pt_look (by first | omega | (simp only [List.length_set]; omega))) Try.isAgg66 Try.sizeOf66)) ?_
   refine dx_takeG 9 rfl rfl rfl rfl rfl rfl (by kernel_rfl) (by kernel_rfl) (by kernel_rfl) s12 (fun _ hS => px_move rfl) ?_
   refine dx_takeG 10 rfl rfl rfl rfl rfl rfl (by kernel_rfl) (by kernel_rfl) (by kernel_rfl) s12 (fun _ hS => px_move rfl) ?_
   refine dx_takeG 11 rfl rfl rfl rfl rfl rfl (by kernel_rfl) (by kernel_rfl) (by kernel_rfl) s12 (fun _ hS => px_sub rfl rfl (by omega)) ?_
   refine dx_takeG 12 rfl rfl rfl rfl rfl rfl (by kernel_rfl) (by kernel_rfl) (by kernel_rfl) s12 (fun _ hS => px_indexK (j := (i - 1)) rfl rfl (by omega) Try.underlying61 Try.sizeOf66 ((f11.sv).chg hS (by omega)) (by omega)) ?_
   refine dx_takeG 13 rfl rfl rfl rfl rfl rfl (by kernel_rfl) (by kernel_rfl) (by kernel_rfl) s12 (fun _ hS => px_load rfl (((f11.sv).chg hS (by omega)).loadA (pt_look (by first | omega | (simp only [List.length_set]; omega))) Try.isAgg66 Try.sizeOf66)) ?_
   refine dx_eff 14 rfl (by kernel_rfl) ?_
   refine sx_guardT rfl rfl rfl ?_
   have f13 := (f11.rest (j := i) (by first | omega | (simp only [List.length_set]; omega))).ext d12
   have f14 := (f11.rest (j := i - 1) (by first | omega | (simp only [List.length_set]; omega))).ext d12
   refine sx_callV rfl rfl rfl Try.call33 (c_before f13 f14 (⟨hr _, hr _⟩)) (fun v15 w15 p15 => ?_)
   obtain ⟨rfl, c15⟩ := p15
   have zw15 := c15.size
   have s16 : Chg 0 0 wl7 w15 := (d12.t c15)
   refine wl_nil ?_
   refine dx_next s16 ?_
   refine dx_takeG 15 rfl rfl rfl rfl rfl rfl (by kernel_rfl) (by kernel_rfl) (by kernel_rfl) s16 (fun _ hS => px_lt rfl rfl) ?_
   refine dt 16 rfl rfl rfl rfl s16 (fun _ hS => px_pick rfl rfl) ?_
   refine dx_done (by kernel_rfl) ?_
   refine q_n (k9 _ _ ?_)
   refine sx_sub (Sub.c 0 rfl (.c 1 rfl (.c 2 rfl (.c 3 rfl (.c 8 rfl (.c 9 rfl (.c 34 rfl .nil))))))) ?_
   have h12x1 : ¬ ((orC (r (ix.getD i 0)) (r (ix.getD (i - 1) 0)) (((ix.getD i 0) : Nat) : Int) (((ix.getD (i - 1) 0) : Nat) : Int) : Int) < 0) := fun hb => bef_asymm (hS _ _ (by omega) (by omega)) (orC_neg.1 hb)
   refine sx_condPF rfl h12x1 ?_
   refine sx_exit ?_
   refine q_e (q_e (q_bx (q_bn (q_n (k5 _ _ ?_)))))
   refine sx_region ?_
   refine mv rfl rfl (sp rfl (px_add rfl rfl (by omega)) ?_)
   refine av rfl rfl (wl_nil ?_)
   exact fun a ha => ⟨_, by omega, (i + 1), ha.sub (Sub.c 0 rfl (.c 1 rfl (.c 2 rfl (.c 3 rfl (.c 8 (look_int (t := 8) rfl (by first | omega | simp)) .nil))))), (((cwl2.t cwl7).t d12).t c15), rfl, by omega⟩
  have f17 := hvd.ext cwl2
  have f18 := f17.ext cwl7
  refine dx_region (fun w' => Chg 0 0 wl7 w') (by kernel_rfl) (Chg.zero (Chg.drew _)) ?_
  have d19 := Chg.drew wl7
  have s19 : Chg 0 0 wl7 (World.drew wl7) := Chg.zero (Chg.drew _)
  have y19 : (World.drew wl7).heap.size = wl7.heap.size := rfl
  generalize World.drew wl7 = w19 at *
  have zw19 := d19.size
  refine dt 0 rfl rfl rfl rfl s19 (fun _ hS => px_move rfl) ?_
  refine dt 1 rfl rfl rfl rfl s19 (fun _ hS => px_move rfl) ?_
  refine dt 2 rfl rfl rfl rfl s19 (fun _ hS => px_gt rfl rfl) ?_
  refine dt 3 rfl rfl rfl rfl s19 (fun _ hS => px_move rfl) ?_
  have h12 : ¬ ((ia : Int) < ↑i) := by first | omega | exact ph12
  refine dx_tmpPF (t := 21) rfl h12 ?_
  refine dx_skip 4 rfl rfl rfl rfl rfl rfl rfl (by kernel_rfl) (by kernel_rfl) (by kernel_rfl) s19 ?_
  refine dx_skip 5 rfl rfl rfl rfl rfl rfl rfl (by kernel_rfl) (by kernel_rfl) (by kernel_rfl) s19 ?_
  refine dx_skip 6 rfl rfl rfl rfl rfl rfl rfl (by kernel_rfl) (by kernel_rfl) (by kernel_rfl) s19 ?_
  refine dx_skip 7 rfl rfl rfl rfl rfl rfl rfl (by kernel_rfl) (by kernel_rfl) (by kernel_rfl) s19 ?_
  refine dx_skip 8 rfl rfl rfl rfl rfl rfl rfl (by kernel_rfl) (by kernel_rfl) (by kernel_rfl) s19 ?_
  refine dx_skip 9 rfl rfl rfl rfl rfl rfl rfl (by kernel_rfl) (by kernel_rfl) (by kernel_rfl) s19 ?_
  refine dx_skip 10 rfl rfl rfl rfl rfl rfl rfl (by kernel_rfl) (by kernel_rfl) (by kernel_rfl) s19 ?_
  refine dx_skip 11 rfl rfl rfl rfl rfl rfl rfl (by kernel_rfl) (by kernel_rfl) (by kernel_rfl) s19 ?_
  refine dx_skip 12 rfl rfl rfl rfl rfl rfl rfl (by kernel_rfl) (by kernel_rfl) (by kernel_rfl) s19 ?_
  refine dx_skip 13 rfl rfl rfl rfl rfl rfl rfl (by kernel_rfl) (by kernel_rfl) (by kernel_rfl) s19 ?_
  refine dx_skip 14 rfl rfl rfl rfl rfl rfl rfl (by kernel_rfl) (by kernel_rfl) (by kernel_rfl) s19 ?_
  refine dx_skip 15 rfl rfl rfl rfl rfl rfl rfl (by kernel_rfl) (by kernel_rfl) (by kernel_rfl) s19 ?_
  refine dt 16 rfl rfl rfl rfl s19 (fun _ hS => px_pick rfl rfl) ?_
  refine dx_done (by kernel_rfl) ?_
  refine q_n (k9 _ _ ?_)
  refine sx_sub (Sub.c 0 rfl (.c 1 rfl (.c 2 rfl (.c 3 rfl (.c 8 rfl (.c 9 rfl (.c 34 rfl .nil))))))) ?_
  refine sx_condF rfl ?_
  refine sx_exit ?_
  refine q_e (q_e (q_bx (q_bn (q_n (k5 _ _ ?_)))))
  refine sx_region ?_
  refine mv rfl rfl (sp rfl (px_add rfl rfl (by omega)) ?_)
  refine av rfl rfl (wl_nil ?_)
  exact fun a ha => ⟨_, by omega, (i + 1), ha.sub (Sub.c 0 rfl (.c 1 rfl (.c 2 rfl (.c 3 rfl (.c 8 (look_int (t := 8) rfl (by first | omega | simp)) .nil))))), ((cwl2.t cwl7).t d19), rfl, by omega⟩
 refine sx_exit ?_
 refine q_e (q_e (q_bx (sx_end0 rfl ?_)))
 exact ⟨rfl, cwl2⟩

theorem c_rotNone {w : World} {vd : Value} {lvd uvd tvd : Nat} {ix : List Nat} {ps : List Value} {r : Nat → Nat} {ia : Int} {im : Int} {ib : Int} (hvd : PtO w lvd uvd tvd vd 66 ix ps r) (hF : False) :
  Ret Try.prog 104 [vd, .int .i64 ia, .int .i64 im, .int .i64 ib, .func (.func 33) #[] #[]] w fun v w' => v = .tuple #[] ∧ Chg 0 0 w w' := by
 exact hF.elim

theorem c_symMergeE0 {w : World} {vd : Value} {lvd uvd tvd : Nat} {ix : List Nat} {ps : List Value} {r : Nat → Nat} {ia : Int} {im : Int} {ib : Int} (hvd : PtO w lvd uvd tvd vd 66 ix ps r) (ha : 0 ≤ ia ∧ ia < im ∧ im < ib ∧ ib ≤ (ix.length : Int) ∧ ix.length ≤ 1000) (hw : ib - ia ≤ 2) (hS : SortTo r ix ix.length) (hr : ∀ i, (dg (r i)).length ≤ 100) :
  Ret Try.prog 103 [vd, .int .i64 ia, .int .i64 im, .int .i64 ib, .func (.func 33) #[] #[]] w fun v w' => v = .tuple #[] ∧ Chg 0 0 w w' := by
 refine sx_enter Try.func103 rfl Try.ntmps103 (nbl rfl) ?_
 refine sx_seq fun K1 k1 => ?_
 refine sx_seq fun K2 k2 => sx_region ?_
 refine mv rfl rfl (mv rfl rfl (sp rfl (px_sub rfl rfl (by omega)) ?_))
 refine sp rfl (px_eq rfl rfl) ?_
 refine wl_nil (q_n (k2 _ _ ?_))
 have h382 : (im - ia : Int) = 1 := by omega
 refine sx_condPT rfl h382 ?_
 refine sx_seq fun K3 k3 => sx_region ?_
 refine mv rfl rfl (av rfl rfl (wl_nil (q_n (k3 _ _ ?_))))
 refine sx_seq fun K4 k4 => sx_region ?_
 refine mv rfl rfl (av rfl rfl (wl_nil (q_n (k4 _ _ ?_))))
 refine sx_seq fun K5 k5 => ?_
 refine sx_block ?_
 refine sx_loop (fun mm aa w' => ∃ (j : Int), Agr 220 [(0, vd), (1, .int .i64 ia), (2, .int .i64 im), (3, .int .i64 ib), (4, .func (.func 33) #[] #[]), (10, .int .i64 im), (11, .int .i64 j)] aa ∧ Chg 0 0 w w' ∧ (mm = (j - im).toNat) ∧ (im ≤ j ∧ j ≤ ib)) (_) (fun a ha => ⟨ib, ha.sub (Sub.c 0 rfl (.c 1 rfl (.c 2 rfl (.c 3 rfl (.c 4 rfl (.c 10 rfl (.c 11 (look_int (t := 11) rfl (by first | omega | simp)) .nil))))))), Chg.refl _ _ _, rfl, by omega⟩) ?_
 rintro mm aa wl6 ⟨j, hAwl6, cwl6, hm, hj⟩
 refine (show cw Try.prog 220 _ _ _ wl6 from ?_) aa hAwl6
 clear hAwl6
 have zwl6 := cwl6.size
 refine sx_seq fun K7 k7 => ?_
 refine sx_seq fun K8 k8 => sx_region ?_
 refine mv rfl rfl (mv rfl rfl (sp rfl (px_lt rfl rfl) ?_))
 refine wl_nil (q_n (k8 _ _ ?_))
 refine sx_condP rfl (fun h388 => ?_) (fun h388 => ?_)
 ·
  refine sx_skip ?_
  refine q_n (k7 _ _ ?_)
  refine sx_block ?_
  refine sx_seq fun K9 k9 => sx_region ?_
  refine mv rfl rfl (mv rfl rfl (sp rfl (px_add rfl rfl (by omega)) ?_))
  refine sp rfl (px_convU Try.underlying3 Try.underlying108 rfl (by omega)) ?_
  refine sp rfl (px_shrU1 rfl rfl) ?_
  refine sp rfl (px_convI Try.underlying108 Try.underlying3 rfl (by omega)) ?_
  refine av rfl rfl (wl_nil (q_n (k9 _ _ ?_)))
  refine sx_sub (Sub.c 0 rfl (.c 1 rfl (.c 2 rfl (.c 3 rfl (.c 4 rfl (.c 10 rfl (.c 11 rfl (.c 12 rfl .nil)))))))) ?_
  refine sx_seq fun K10 k10 => ?_
  have f11 := hvd.ext cwl6
  refine dx_region (fun w' => Chg 0 0 wl6 w') (by kernel_rfl) (Chg.zero (Chg.drew _)) ?_
  have d12 := Chg.drew wl6
  have s12 : Chg 0 0 wl6 (World.drew wl6) := Chg.zero (Chg.drew _)
  have y12 : (World.drew wl6).heap.size = wl6.heap.size := rfl
  generalize World.drew wl6 = w12 at *
  have zw12 := d12.size
  refine dt 0 rfl rfl rfl rfl s12 (fun _ hS => px_move rfl) ?_
  refine dt 1 rfl rfl rfl rfl s12 (fun _ hS => px_move rfl) ?_
  refine dt 2 rfl rfl rfl rfl s12 (fun _ hS => px_move rfl) ?_
  refine dt 3 rfl rfl rfl rfl s12 (fun _ hS => px_indexK (j := ((im + j) / 2).toNat) rfl rfl (by omega) Try.underlying61 Try.sizeOf66 ((f11.sv).chg hS (by omega)) (by omega)) ?_
  refine dt 4 rfl rfl rfl rfl s12 (fun _ hS => px_load rfl (((f11.sv).chg hS (by omega)).loadA (pt_look (by first | omega | (simp only [List.length_set]; omega))) Try.isAgg66 Try.sizeOf66)) ?_
  refine dt 5 rfl rfl rfl rfl s12 (fun _ hS => px_move rfl) ?_
  refine dt 6 rfl rfl rfl rfl s12 (fun _ hS => px_move rfl) ?_
  refine dt 7 rfl rfl rfl rfl s12 (fun _ hS => px_indexK (j := ia.toNat) rfl rfl (by omega) Try.underlying61 Try.sizeOf66 ((f11.sv).chg hS (by omega)) (by omega)) ?_
  refine dt 8 rfl rfl rfl rfl s12 (fun _ hS => px_load rfl (((f11.sv).chg hS (by omega)).loadA (pt_look (by first | omega | (simp only [List.length_set]; omega))) Try.isAgg66 Try.sizeOf66)) ?_
  refine dx_eff 9 rfl (by kernel_rfl) ?_
  have f13 := (f11.rest (j := ((im + j) / 2).toNat) (by first | omega | (simp only [List.length_set]; omega))).ext d12
  have f14 := (f11.rest (j := ia.toNat) (by first | omega | (simp only [List.length_set]; omega))).ext d12
  refine sx_callV rfl rfl rfl Try.call33 (c_before f13 f14 (⟨hr _, hr _⟩)) (fun v15 w15 p15 => ?_)
  obtain ⟨rfl, c15⟩ := p15
  have zw15 := c15.size
  have s16 : Chg 0 0 wl6 w15 := (d12.t c15)
  refine wl_nil ?_
  refine dx_next s16 ?_
  refine dt 10 rfl rfl rfl rfl s16 (fun _ hS => px_lt rfl rfl) ?_
  refine dx_done (by kernel_rfl) ?_
  refine q_n (k10 _ _ ?_)
  refine sx_sub (Sub.c 0 rfl (.c 1 rfl (.c 2 rfl (.c 3 rfl (.c 4 rfl (.c 10 rfl (.c 11 rfl (.c 12 rfl (.c 50 rfl .nil))))))))) ?_
  have h390 : ¬ ((orC (r (ix.getD (((im + j) / 2).toNat) 0)) (r (ix.getD ia.toNat 0)) (((ix.getD (((im + j) / 2).toNat) 0) : Nat) : Int) (((ix.getD ia.toNat 0) : Nat) : Int) : Int) < 0) := fun hb => bef_asymm (hS _ _ (by omega) (by omega)) (orC_neg.1 hb)
  refine sx_condPF rfl h390 ?_
  refine sx_region ?_
  refine mv rfl rfl (av rfl rfl (wl_nil ?_))
  exact q_bn (fun a ha => ⟨_, by omega, ((im + j) / 2), ha.sub (Sub.c 0 rfl (.c 1 rfl (.c 2 rfl (.c 3 rfl (.c 4 rfl (.c 10 rfl (.c 11 (look_int (t := 11) rfl (by first | omega | simp)) .nil))))))), ((cwl6.t d12).t c15), rfl, by omega⟩)
 refine sx_exit ?_
 refine q_e (q_e (q_bx (q_n (k5 _ _ ?_))))
 refine sx_seq fun K17 k17 => ?_
 refine sx_seq fun K18 k18 => sx_region ?_
 refine mv rfl rfl (av rfl rfl (wl_nil (q_n (k18 _ _ ?_))))
 refine sx_block ?_
 refine sx_loop (fun mm aa w' => Agr 220 [(0, vd), (1, .int .i64 ia), (2, .int .i64 im), (3, .int .i64 ib), (4, .func (.func 33) #[] #[]), (10, .int .i64 im), (13, .int .i64 ia)] aa ∧ Chg 0 0 wl6 w' ∧ (mm = 0)) (_) (fun a ha => ⟨ha.sub (Sub.c 0 rfl (.c 1 rfl (.c 2 rfl (.c 3 rfl (.c 4 rfl (.c 10 rfl (.c 13 rfl .nil))))))), Chg.refl _ _ _, rfl⟩) ?_
 rintro mm aa wl19 ⟨hAwl19, cwl19, hm⟩
 refine (show cw Try.prog 220 _ _ _ wl19 from ?_) aa hAwl19
 clear hAwl19
 have zwl19 := cwl19.size
 refine sx_seq fun K20 k20 => ?_
 refine sx_seq fun K21 k21 => sx_region ?_
 refine mv rfl rfl (mv rfl rfl (sp rfl (px_sub rfl rfl (by omega)) ?_))
 refine sp rfl (px_lt rfl rfl) ?_
 refine wl_nil (q_n (k21 _ _ ?_))
 have h397 : ¬ ((ia : Int) < im - 1) := by omega
 refine sx_condPF rfl h397 ?_
 refine sx_exit ?_
 refine q_e (q_e (q_bx (q_n (k17 _ _ ?_))))
 refine sx_retc ?_
 refine q_r (sx_ret0 rfl ?_)
 exact ⟨rfl, (cwl6.t cwl19)⟩

theorem c_symMergeE1 {w : World} {vd : Value} {lvd uvd tvd : Nat} {ix : List Nat} {ps : List Value} {r : Nat → Nat} {ia : Int} {im : Int} {ib : Int} (hvd : PtO w lvd uvd tvd vd 66 ix ps r) (ha : 0 ≤ ia ∧ ia < im ∧ im < ib ∧ ib ≤ (ix.length : Int) ∧ ix.length ≤ 1000) (hw : ib - ia ≤ 4) (hS : SortTo r ix ix.length) (hr : ∀ i, (dg (r i)).length ≤ 100) :
  Ret Try.prog 103 [vd, .int .i64 ia, .int .i64 im, .int .i64 ib, .func (.func 33) #[] #[]] w fun v w' => v = .tuple #[] ∧ Chg 0 0 w w' := by
 refine sx_enter Try.func103 rfl Try.ntmps103 (nbl rfl) ?_
 refine sx_seq fun K1 k1 => ?_
 refine sx_seq fun K2 k2 => sx_region ?_
 refine mv rfl rfl (mv rfl rfl (sp rfl (px_sub rfl rfl (by omega)) ?_))
 refine sp rfl (px_eq rfl rfl) ?_
 refine wl_nil (q_n (k2 _ _ ?_))
 refine sx_condP rfl (fun h382 => ?_) (fun h382 => ?_)
 ·
  refine sx_seq fun K3 k3 => sx_region ?_
  refine mv rfl rfl (av rfl rfl (wl_nil (q_n (k3 _ _ ?_))))
  refine sx_seq fun K4 k4 => sx_region ?_
  refine mv rfl rfl (av rfl rfl (wl_nil (q_n (k4 _ _ ?_))))
  refine sx_seq fun K5 k5 => ?_
  refine sx_block ?_
  refine sx_loop (fun mm aa w' => ∃ (j : Int), Agr 220 [(0, vd), (1, .int .i64 ia), (2, .int .i64 im), (3, .int .i64 ib), (4, .func (.func 33) #[] #[]), (10, .int .i64 im), (11, .int .i64 j)] aa ∧ Chg 0 0 w w' ∧ (mm = (j - im).toNat) ∧ (im ≤ j ∧ j ≤ ib)) (_) (fun a ha => ⟨ib, ha.sub (Sub.c 0 rfl (.c 1 rfl (.c 2 rfl (.c 3 rfl (.c 4 rfl (.c 10 rfl (.c 11 (look_int (t := 11) rfl (by first | omega | simp)) .nil))))))), Chg.refl _ _ _, rfl, by omega⟩) ?_
  rintro mm aa wl6 ⟨j, hAwl6, cwl6, hm, hj⟩
  refine (show cw Try.prog 220 _ _ _ wl6 from ?_) aa hAwl6
  clear hAwl6
  have zwl6 := cwl6.size
  refine sx_seq fun K7 k7 => ?_
  refine sx_seq fun K8 k8 => sx_region ?_
  refine mv rfl rfl (mv rfl rfl (sp rfl (px_lt rfl rfl) ?_))
  refine wl_nil (q_n (k8 _ _ ?_))
  refine sx_condP rfl (fun h388 => ?_) (fun h388 => ?_)
  ·
   refine sx_skip ?_
   refine q_n (k7 _ _ ?_)
   refine sx_block ?_
   refine sx_seq fun K9 k9 => sx_region ?_
   refine mv rfl rfl (mv rfl rfl (sp rfl (px_add rfl rfl (by omega)) ?_))
   refine sp rfl (px_convU Try.underlying3 Try.underlying108 rfl (by omega)) ?_
   refine sp rfl (px_shrU1 rfl rfl) ?_
   refine sp rfl (px_convI Try.underlying108 Try.underlying3 rfl (by omega)) ?_
   refine av rfl rfl (wl_nil (q_n (k9 _ _ ?_)))
   refine sx_sub (Sub.c 0 rfl (.c 1 rfl (.c 2 rfl (.c 3 rfl (.c 4 rfl (.c 10 rfl (.c 11 rfl (.c 12 rfl .nil)))))))) ?_
   refine sx_seq fun K10 k10 => ?_
   have f11 := hvd.ext cwl6
   refine dx_region (fun w' => Chg 0 0 wl6 w') (by kernel_rfl) (Chg.zero (Chg.drew _)) ?_
   have d12 := Chg.drew wl6
   have s12 : Chg 0 0 wl6 (World.drew wl6) := Chg.zero (Chg.drew _)
   have y12 : (World.drew wl6).heap.size = wl6.heap.size := rfl
   generalize World.drew wl6 = w12 at *
   have zw12 := d12.size
   refine dt 0 rfl rfl rfl rfl s12 (fun _ hS => px_move rfl) ?_
   refine dt 1 rfl rfl rfl rfl s12 (fun _ hS => px_move rfl) ?_
   refine dt 2 rfl rfl rfl rfl s12 (fun _ hS => px_move rfl) ?_
   refine dt 3 rfl rfl rfl rfl s12 (fun _ hS => px_indexK (j := ((im + j) / 2).toNat) rfl rfl (by omega) Try.underlying61 Try.sizeOf66 ((f11.sv).chg hS (by omega)) (by omega)) ?_
   refine dt 4 rfl rfl rfl rfl s12 (fun _ hS => px_load rfl (((f11.sv).chg hS (by omega)).loadA (pt_look (by first | omega | (simp only [List.length_set]; omega))) Try.isAgg66 Try.sizeOf66)) ?_
   refine dt 5 rfl rfl rfl rfl s12 (fun _ hS => px_move rfl) ?_
   refine dt 6 rfl rfl rfl rfl s12 (fun _ hS => px_move rfl) ?_
   refine dt 7 rfl rfl rfl rfl s12 (fun _ hS => px_indexK (j := ia.toNat) rfl rfl (by omega) Try.underlying61 Try.sizeOf66 ((f11.sv).chg hS (by omega)) (by omega)) ?_
   refine dt 8 rfl rfl rfl rfl s12 (fun _ hS => px_load rfl (((f11.sv).chg hS (by omega)).loadA (pt_look (by first | omega | (simp only [List.length_set]; omega))) Try.isAgg66 Try.sizeOf66)) ?_
   refine dx_eff 9 rfl (by kernel_rfl) ?_
   have f13 := (f11.rest (j := ((im + j) / 2).toNat) (by first | omega | (simp only [List.length_set]; omega))).ext d12
   have f14 := (f11.rest (j := ia.toNat) (by first | omega | (simp only [List.length_set]; omega))).ext d12
   refine sx_callV rfl rfl rfl Try.call33 (c_before f13 f14 (⟨hr _, hr _⟩)) (fun v15 w15 p15 => ?_)
   obtain ⟨rfl, c15⟩ := p15
   have zw15 := c15.size
   have s16 : Chg 0 0 wl6 w15 := (d12.t c15)
   refine wl_nil ?_
   refine dx_next s16 ?_
   refine dt 10 rfl rfl rfl rfl s16 (fun _ hS => px_lt rfl rfl) ?_
   refine dx_done (by kernel_rfl) ?_
   refine q_n (k10 _ _ ?_)
   refine sx_sub (Sub.c 0 rfl (.c 1 rfl (.c 2 rfl (.c 3 rfl (.c 4 rfl (.c 10 rfl (.c 11 rfl (.c 12 rfl (.c 50 rfl .nil))))))))) ?_
   have h390 : ¬ ((orC (r (ix.getD (((im + j) / 2).toNat) 0)) (r (ix.getD ia.toNat 0)) (((ix.getD (((im + j) / 2).toNat) 0) : Nat) : Int) (((ix.getD ia.toNat 0) : Nat) : Int) : Int) < 0) := fun hb => bef_asymm (hS _ _ (by omega) (by omega)) (orC_neg.1 hb)
   refine sx_condPF rfl h390 ?_
   refine sx_region ?_
   refine mv rfl rfl (av rfl rfl (wl_nil ?_))
   exact q_bn (fun a ha => ⟨_, by omega, ((im + j) / 2), ha.sub (Sub.c 0 rfl (.c 1 rfl (.c 2 rfl (.c 3 rfl (.c 4 rfl (.c 10 rfl (.c 11 (look_int (t := 11) rfl (by first | omega | simp)) .nil))))))), ((cwl6.t d12).t c15), rfl, by omega⟩)
  refine sx_exit ?_
  refine q_e (q_e (q_bx (q_n (k5 _ _ ?_))))
  refine sx_seq fun K17 k17 => ?_
  refine sx_seq fun K18 k18 => sx_region ?_
  refine mv rfl rfl (av rfl rfl (wl_nil (q_n (k18 _ _ ?_))))
  refine sx_block ?_
  refine sx_loop (fun mm aa w' => Agr 220 [(0, vd), (1, .int .i64 ia), (2, .int .i64 im), (3, .int .i64 ib), (4, .func (.func 33) #[] #[]), (10, .int .i64 im), (13, .int .i64 ia)] aa ∧ Chg 0 0 wl6 w' ∧ (mm = 0)) (_) (fun a ha => ⟨ha.sub (Sub.c 0 rfl (.c 1 rfl (.c 2 rfl (.c 3 rfl (.c 4 rfl (.c 10 rfl (.c 13 rfl .nil))))))), Chg.refl _ _ _, rfl⟩) ?_
  rintro mm aa wl19 ⟨hAwl19, cwl19, hm⟩
  refine (show cw Try.prog 220 _ _ _ wl19 from ?_) aa hAwl19
  clear hAwl19
  have zwl19 := cwl19.size
  refine sx_seq fun K20 k20 => ?_
  refine sx_seq fun K21 k21 => sx_region ?_
  refine mv rfl rfl (mv rfl rfl (sp rfl (px_sub rfl rfl (by omega)) ?_))
  refine sp rfl (px_lt rfl rfl) ?_
  refine wl_nil (q_n (k21 _ _ ?_))
  have h397 : ¬ ((ia : Int) < im - 1) := by omega
  refine sx_condPF rfl h397 ?_
  refine sx_exit ?_
  refine q_e (q_e (q_bx (q_n (k17 _ _ ?_))))
  refine sx_retc ?_
  refine q_r (sx_ret0 rfl ?_)
  exact ⟨rfl, (cwl6.t cwl19)⟩
 refine sx_skip ?_
 refine q_n (k1 _ _ ?_)
 refine sx_seq fun K22 k22 => ?_
 refine sx_seq fun K23 k23 => sx_region ?_
 refine mv rfl rfl (mv rfl rfl (sp rfl (px_sub rfl rfl (by omega)) ?_))
 refine sp rfl (px_eq rfl rfl) ?_
 refine wl_nil (q_n (k23 _ _ ?_))
 refine sx_condP rfl (fun h406 => ?_) (fun h406 => ?_)
 ·
  refine sx_seq fun K24 k24 => sx_region ?_
  refine mv rfl rfl (av rfl rfl (wl_nil (q_n (k24 _ _ ?_))))
  refine sx_sub (Sub.c 0 rfl (.c 1 rfl (.c 2 rfl (.c 3 rfl (.c 4 rfl (.c 14 rfl .nil)))))) ?_
  refine sx_seq fun K25 k25 => sx_region ?_
  refine mv rfl rfl (av rfl rfl (wl_nil (q_n (k25 _ _ ?_))))
  refine sx_seq fun K26 k26 => ?_
  refine sx_block ?_
  refine sx_loop (fun mm aa w' => ∃ (i : Int), Agr 220 [(0, vd), (1, .int .i64 ia), (2, .int .i64 im), (3, .int .i64 ib), (4, .func (.func 33) #[] #[]), (14, .int .i64 i), (15, .int .i64 im)] aa ∧ Chg 0 0 w w' ∧ (mm = (im - i).toNat) ∧ (ia ≤ i ∧ i ≤ im)) (_) (fun a ha => ⟨ia, ha.sub (Sub.c 0 rfl (.c 1 rfl (.c 2 rfl (.c 3 rfl (.c 4 rfl (.c 14 (look_int (t := 14) rfl (by first | omega | simp)) (.c 15 rfl .nil))))))), Chg.refl _ _ _, rfl, by omega⟩) ?_
  rintro mm aa wl27 ⟨i, hAwl27, cwl27, hm, hi⟩
  refine (show cw Try.prog 220 _ _ _ wl27 from ?_) aa hAwl27
  clear hAwl27
  have zwl27 := cwl27.size
  refine sx_seq fun K28 k28 => ?_
  refine sx_seq fun K29 k29 => sx_region ?_
  refine mv rfl rfl (mv rfl rfl (sp rfl (px_lt rfl rfl) ?_))
  refine wl_nil (q_n (k29 _ _ ?_))
  refine sx_condP rfl (fun h412 => ?_) (fun h412 => ?_)
  ·
   refine sx_skip ?_
   refine q_n (k28 _ _ ?_)
   refine sx_block ?_
   refine sx_seq fun K30 k30 => sx_region ?_
   refine mv rfl rfl (mv rfl rfl (sp rfl (px_add rfl rfl (by omega)) ?_))
   refine sp rfl (px_convU Try.underlying3 Try.underlying108 rfl (by omega)) ?_
   refine sp rfl (px_shrU1 rfl rfl) ?_
   refine sp rfl (px_convI Try.underlying108 Try.underlying3 rfl (by omega)) ?_
   refine av rfl rfl (wl_nil (q_n (k30 _ _ ?_)))
   refine sx_sub (Sub.c 0 rfl (.c 1 rfl (.c 2 rfl (.c 3 rfl (.c 4 rfl (.c 14 rfl (.c 15 rfl (.c 16 rfl .nil)))))))) ?_
   refine sx_seq fun K31 k31 => ?_
   have f32 := hvd.ext cwl27
   refine dx_region (fun w' => Chg 0 0 wl27 w') (by kernel_rfl) (Chg.zero (Chg.drew _)) ?_
   have d33 := Chg.drew wl27
   have s33 : Chg 0 0 wl27 (World.drew wl27) := Chg.zero (Chg.drew _)
   have y33 : (World.drew wl27).heap.size = wl27.heap.size := rfl
   generalize World.drew wl27 = w33 at *
   have zw33 := d33.size
   refine dt 0 rfl rfl rfl rfl s33 (fun _ hS => px_move rfl) ?_
   refine dt 1 rfl rfl rfl rfl s33 (fun _ hS => px_move rfl) ?_
   refine dt 2 rfl rfl rfl rfl s33 (fun _ hS => px_move rfl) ?_
   refine dt 3 rfl rfl rfl rfl s33 (fun _ hS => px_indexK (j := im.toNat) rfl rfl (by omega) Try.underlying61 Try.sizeOf66 ((f32.sv).chg hS (by omega)) (by omega)) ?_
   refine dt 4 rfl rfl rfl rfl s33 (fun _ hS => px_load rfl (((f32.sv).chg hS (by omega)).loadA (pt_look (by first | omega | (simp only [List.length_set]; omega))) Try.isAgg66 Try.sizeOf66)) ?_
   refine dt 5 rfl rfl rfl rfl s33 (fun _ hS => px_move rfl) ?_
   refine dt 6 rfl rfl rfl rfl s33 (fun _ hS => px_move rfl) ?_
   refine dt 7 rfl rfl rfl rfl s33 (fun _ hS => px_indexK (j := ((i + im) / 2).toNat) rfl rfl (by omega) Try.underlying61 Try.sizeOf66 ((f32.sv).chg hS (by omega)) (by omega)) ?_
   refine dt 8 rfl rfl rfl rfl s33 (fun _ hS => px_load rfl (((f32.sv).chg hS (by omega)).loadA (pt_look (by first | omega | (simp only [List.length_set]; omega))) Try.isAgg66 Try.sizeOf66)) ?_
   refine dx_eff 9 rfl (by kernel_rfl) ?_
   have f34 := (f32.rest (j := im.toNat) (by first | omega | (simp only [List.length_set]; omega))).ext d33
   have f35 := (f32.rest (j := ((i + im) / 2).toNat) (by first | omega | (simp only [List.length_set]; omega))).ext d33
   refine sx_callV rfl rfl rfl Try.call33 (c_before f34 f35 (⟨hr _, hr _⟩)) (fun v36 w36 p36 => ?_)
   obtain ⟨rfl, c36⟩ := p36
   have zw36 := c36.size
   have s37 : Chg 0 0 wl27 w36 := (d33.t c36)
   refine wl_nil ?_
   refine dx_next s37 ?_
   refine dt 10 rfl rfl rfl rfl s37 (fun _ hS => px_lt rfl rfl) ?_
   refine dt 11 rfl rfl rfl rfl s37 (fun _ hS => px_notP rfl) ?_
   refine dx_done (by kernel_rfl) ?_
   refine q_n (k31 _ _ ?_)
   refine sx_sub (Sub.c 0 rfl (.c 1 rfl (.c 2 rfl (.c 3 rfl (.c 4 rfl (.c 14 rfl (.c 15 rfl (.c 16 rfl (.c 103 rfl .nil))))))))) ?_
   have h414 : ¬ ((orC (r (ix.getD im.toNat 0)) (r (ix.getD (((i + im) / 2).toNat) 0)) (((ix.getD im.toNat 0) : Nat) : Int) (((ix.getD (((i + im) / 2).toNat) 0) : Nat) : Int) : Int) < 0) := fun hb => bef_asymm (hS _ _ (by omega) (by omega)) (orC_neg.1 hb)
   refine sx_condPT rfl h414 ?_
   refine sx_region ?_
   refine mv rfl rfl (sp rfl (px_add rfl rfl (by omega)) ?_)
   refine av rfl rfl (wl_nil ?_)
   exact q_bn (fun a ha => ⟨_, by omega, (((i + im) / 2) + 1), ha.sub (Sub.c 0 rfl (.c 1 rfl (.c 2 rfl (.c 3 rfl (.c 4 rfl (.c 14 (look_int (t := 14) rfl (by first | omega | simp)) (.c 15 rfl .nil))))))), ((cwl27.t d33).t c36), rfl, by omega⟩)
  refine sx_exit ?_
  refine q_e (q_e (q_bx (q_n (k26 _ _ ?_))))
  refine sx_seq fun K38 k38 => ?_
  refine sx_seq fun K39 k39 => sx_region ?_
  refine mv rfl rfl (av rfl rfl (wl_nil (q_n (k39 _ _ ?_))))
  refine sx_block ?_
  refine sx_loop (fun mm aa w' => Agr 220 [(0, vd), (1, .int .i64 ia), (2, .int .i64 im), (3, .int .i64 ib), (4, .func (.func 33) #[] #[]), (14, .int .i64 i), (17, .int .i64 im)] aa ∧ Chg 0 0 wl27 w' ∧ (mm = 0)) (_) (fun a ha => ⟨ha.sub (Sub.c 0 rfl (.c 1 rfl (.c 2 rfl (.c 3 rfl (.c 4 rfl (.c 14 rfl (.c 17 rfl .nil))))))), Chg.refl _ _ _, rfl⟩) ?_
  rintro mm aa wl40 ⟨hAwl40, cwl40, hm⟩
  refine (show cw Try.prog 220 _ _ _ wl40 from ?_) aa hAwl40
  clear hAwl40
  have zwl40 := cwl40.size
  refine sx_seq fun K41 k41 => ?_
  refine sx_seq fun K42 k42 => sx_region ?_
  refine mv rfl rfl (mv rfl rfl (sp rfl (px_gt rfl rfl) ?_))
  refine wl_nil (q_n (k42 _ _ ?_))
  have h421 : ¬ ((i : Int) < im) := by omega
  refine sx_condPF rfl h421 ?_
  refine sx_exit ?_
  refine q_e (q_e (q_bx (q_n (k38 _ _ ?_))))
  refine sx_retc ?_
  refine q_r (sx_ret0 rfl ?_)
  exact ⟨rfl, (cwl27.t cwl40)⟩
 refine sx_skip ?_
 refine q_n (k22 _ _ ?_)
 refine sx_seq fun K43 k43 => sx_region ?_
 refine mv rfl rfl (mv rfl rfl (sp rfl (px_add rfl rfl (by omega)) ?_))
 refine sp rfl (px_convU Try.underlying3 Try.underlying108 rfl (by omega)) ?_
 refine sp rfl (px_shrU1 rfl rfl) ?_
 refine sp rfl (px_convI Try.underlying108 Try.underlying3 rfl (by omega)) ?_
 refine av rfl rfl (wl_nil (q_n (k43 _ _ ?_)))
 refine sx_sub (Sub.c 0 rfl (.c 1 rfl (.c 2 rfl (.c 3 rfl (.c 4 rfl (.c 18 rfl .nil)))))) ?_
 refine sx_seq fun K44 k44 => sx_region ?_
 refine mv rfl rfl (mv rfl rfl (sp rfl (px_add rfl rfl (by omega)) ?_))
 refine av rfl rfl (wl_nil (q_n (k44 _ _ ?_)))
 refine sx_seq fun K45 k45 => sx_region ?_
 refine av rfl rfl (av rfl rfl (wl_nil (q_n (k45 _ _ ?_))))
 refine sx_seq fun K46 k46 => ?_
 refine sx_seq fun K47 k47 => sx_region ?_
 refine mv rfl rfl (mv rfl rfl (sp rfl (px_gt rfl rfl) ?_))
 refine wl_nil (q_n (k47 _ _ ?_))
 refine sx_sub (Sub.c 0 rfl (.c 1 rfl (.c 2 rfl (.c 3 rfl (.c 4 rfl (.c 18 rfl (.c 19 rfl (.c 20 rfl (.c 21 rfl (.c 140 rfl .nil)))))))))) ?_
 refine sx_condP rfl (fun h430 => ?_) (fun h430 => ?_)
 ·
  refine sx_seq fun K48 k48 => sx_region ?_
  refine mv rfl rfl (mv rfl rfl (sp rfl (px_sub rfl rfl (by omega)) ?_))
  refine av rfl rfl (wl_nil (q_n (k48 _ _ ?_)))
  refine sx_region ?_
  refine mv rfl rfl (av rfl rfl (wl_nil (q_n (k46 _ _ ?_))))
  refine sx_seq fun K49 k49 => sx_region ?_
  refine mv rfl rfl (sp rfl (px_sub rfl rfl (by omega)) ?_)
  refine av rfl rfl (wl_nil (q_n (k49 _ _ ?_)))
  refine sx_sub (Sub.c 0 rfl (.c 1 rfl (.c 2 rfl (.c 3 rfl (.c 4 rfl (.c 18 rfl (.c 19 rfl (.c 20 rfl (.c 21 rfl (.c 22 rfl .nil)))))))))) ?_
  refine sx_seq fun K50 k50 => ?_
  refine sx_block ?_
  refine sx_loop (fun mm aa w' => ∃ (s : Int), Agr 220 [(0, vd), (1, .int .i64 ia), (2, .int .i64 im), (3, .int .i64 ib), (4, .func (.func 33) #[] #[]), (18, .int .i64 ((ia + ib) / 2)), (19, .int .i64 (((ia + ib) / 2) + im)), (20, .int .i64 s), (21, .int .i64 ((ia + ib) / 2)), (22, .int .i64 ((((ia + ib) / 2) + im) - 1))] aa ∧ Chg 0 0 w w' ∧ (mm = (((ia + ib) / 2) - s).toNat) ∧ ((((ia + ib) / 2) + im) - ib ≤ s ∧ s ≤ (ia + ib) / 2)) (_) (fun a ha => ⟨((((ia + ib) / 2) + im) - ib), ha.sub (Sub.c 0 rfl (.c 1 rfl (.c 2 rfl (.c 3 rfl (.c 4 rfl (.c 18 rfl (.c 19 rfl (.c 20 (look_int (t := 20) rfl (by first | omega | simp)) (.c 21 rfl (.c 22 rfl .nil)))))))))), Chg.refl _ _ _, rfl, by omega⟩) ?_
  rintro mm aa wl51 ⟨s, hAwl51, cwl51, hm, hs⟩
  refine (show cw Try.prog 220 _ _ _ wl51 from ?_) aa hAwl51
  clear hAwl51
  have zwl51 := cwl51.size
  refine sx_seq fun K52 k52 => ?_
  refine sx_seq fun K53 k53 => sx_region ?_
  refine mv rfl rfl (mv rfl rfl (sp rfl (px_lt rfl rfl) ?_))
  refine wl_nil (q_n (k53 _ _ ?_))
  refine sx_condP rfl (fun h439 => ?_) (fun h439 => ?_)
  ·
   refine sx_skip ?_
   refine q_n (k52 _ _ ?_)
   refine sx_block ?_
   refine sx_seq fun K54 k54 => sx_region ?_
   refine mv rfl rfl (mv rfl rfl (sp rfl (px_add rfl rfl (by omega)) ?_))
   refine sp rfl (px_convU Try.underlying3 Try.underlying108 rfl (by omega)) ?_
   refine sp rfl (px_shrU1 rfl rfl) ?_
   refine sp rfl (px_convI Try.underlying108 Try.underlying3 rfl (by omega)) ?_
   refine av rfl rfl (wl_nil (q_n (k54 _ _ ?_)))
   refine sx_sub (Sub.c 0 rfl (.c 1 rfl (.c 2 rfl (.c 3 rfl (.c 4 rfl (.c 18 rfl (.c 19 rfl (.c 20 rfl (.c 21 rfl (.c 22 rfl (.c 23 rfl .nil))))))))))) ?_
   refine sx_seq fun K55 k55 => ?_
   have f56 := hvd.ext cwl51
   refine dx_region (fun w' => Chg 0 0 wl51 w') (by kernel_rfl) (Chg.zero (Chg.drew _)) ?_
   have d57 := Chg.drew wl51
   have s57 : Chg 0 0 wl51 (World.drew wl51) := Chg.zero (Chg.drew _)
   have y57 : (World.drew wl51).heap.size = wl51.heap.size := rfl
   generalize World.drew wl51 = w57 at *
   have zw57 := d57.size
   refine dt 0 rfl rfl rfl rfl s57 (fun _ hS => px_move rfl) ?_
   refine dt 1 rfl rfl rfl rfl s57 (fun _ hS => px_move rfl) ?_
   refine dt 2 rfl rfl rfl rfl s57 (fun _ hS => px_move rfl) ?_
   refine dt 3 rfl rfl rfl rfl s57 (fun _ hS => px_move rfl) ?_
   refine dt 4 rfl rfl rfl rfl s57 (fun _ hS => px_sub rfl rfl (by omega)) ?_
   refine dt 5 rfl rfl rfl rfl s57 (fun _ hS => px_indexK (j := (((((ia + ib) / 2) + im) - 1).toNat - ((s + ((ia + ib) / 2)) / 2).toNat)) rfl rfl (by omega) Try.underlying61 Try.sizeOf66 ((f56.sv).chg hS (by omega)) (by omega)) ?_
   refine dt 6 rfl rfl rfl rfl s57 (fun _ hS => px_load rfl (((f56.sv).chg hS (by omega)).loadA (pt_look (by first | omega | (simp only [List.length_set]; omega))) Try.isAgg66 Try.sizeOf66)) ?_
   refine dt 7 rfl rfl rfl rfl s57 (fun _ hS => px_move rfl) ?_
   refine dt 8 rfl rfl rfl rfl s57 (fun _ hS => px_move rfl) ?_
   refine dt 9 rfl rfl rfl rfl s57 (fun _ hS => px_indexK (j := ((s + ((ia + ib) / 2)) / 2).toNat) rfl rfl (by omega) Try.underlying61 Try.sizeOf66 ((f56.sv).chg hS (by omega)) (by omega)) ?_
   refine dt 10 rfl rfl rfl rfl s57 (fun _ hS => px_load rfl (((f56.sv).chg hS (by omega)).loadA (pt_look (by first | omega | (simp only [List.length_set]; omega))) Try.isAgg66 Try.sizeOf66)) ?_
   refine dx_eff 11 rfl (by kernel_rfl) ?_
   have f58 := (f56.rest (j := ((((ia + ib) / 2) + im) - 1).toNat - ((s + ((ia + ib) / 2)) / 2).toNat) (by first | omega | (simp only [List.length_set]; omega))).ext d57
   have f59 := (f56.rest (j := ((s + ((ia + ib) / 2)) / 2).toNat) (by first | omega | (simp only [List.length_set]; omega))).ext d57
   refine sx_callV rfl rfl rfl Try.call33 (c_before f58 f59 (⟨hr _, hr _⟩)) (fun v60 w60 p60 => ?_)
   obtain ⟨rfl, c60⟩ := p60
   have zw60 := c60.size
   have s61 : Chg 0 0 wl51 w60 := (d57.t c60)
   refine wl_nil ?_
   refine dx_next s61 ?_
   refine dt 12 rfl rfl rfl rfl s61 (fun _ hS => px_lt rfl rfl) ?_
   refine dt 13 rfl rfl rfl rfl s61 (fun _ hS => px_notP rfl) ?_
   refine dx_done (by kernel_rfl) ?_
   refine q_n (k55 _ _ ?_)
   refine sx_sub (Sub.c 0 rfl (.c 1 rfl (.c 2 rfl (.c 3 rfl (.c 4 rfl (.c 18 rfl (.c 19 rfl (.c 20 rfl (.c 21 rfl (.c 22 rfl (.c 23 rfl (.c 171 rfl .nil)))))))))))) ?_
   have h441 : ¬ ((orC (r (ix.getD (((((ia + ib) / 2) + im) - 1).toNat - ((s + ((ia + ib) / 2)) / 2).toNat) 0)) (r (ix.getD (((s + ((ia + ib) / 2)) / 2).toNat) 0)) (((ix.getD (((((ia + ib) / 2) + im) - 1).toNat - ((s + ((ia + ib) / 2)) / 2).toNat) 0) : Nat) : Int) (((ix.getD (((s + ((ia + ib) / 2)) / 2).toNat) 0) : Nat) : Int) : Int) < 0) := fun hb => bef_asymm (hS _ _ (by omega) (by omega)) (orC_neg.1 hb)
   refine sx_condPT rfl h441 ?_
   refine sx_region ?_
   refine mv rfl rfl (sp rfl (px_add rfl rfl (by omega)) ?_)
   refine av rfl rfl (wl_nil ?_)
   exact q_bn (fun a ha => ⟨_, by omega, (((s + ((ia + ib) / 2)) / 2) + 1), ha.sub (Sub.c 0 rfl (.c 1 rfl (.c 2 rfl (.c 3 rfl (.c 4 rfl (.c 18 rfl (.c 19 rfl (.c 20 (look_int (t := 20) rfl (by first | omega | simp)) (.c 21 rfl (.c 22 rfl .nil)))))))))), ((cwl51.t d57).t c60), rfl, by omega⟩)
  refine sx_exit ?_
  refine q_e (q_e (q_bx (q_n (k50 _ _ ?_))))
  refine sx_seq fun K62 k62 => sx_region ?_
  refine mv rfl rfl (mv rfl rfl (sp rfl (px_sub rfl rfl (by omega)) ?_))
  refine av rfl rfl (wl_nil (q_n (k62 _ _ ?_)))
  refine sx_sub (Sub.c 0 rfl (.c 1 rfl (.c 2 rfl (.c 3 rfl (.c 4 rfl (.c 18 rfl (.c 20 rfl (.c 24 rfl .nil)))))))) ?_
  refine sx_seq fun K63 k63 => ?_
  refine sx_seq fun K64 k64 => sx_region ?_
  refine mv rfl rfl (mv rfl rfl (sp rfl (px_lt rfl rfl) ?_))
  refine mv rfl rfl ?_
  refine sx_tmpP (t := 181) rfl (fun h449 => ?_) (fun h449 => ?_)
  ·
   refine sx_guardT rfl rfl rfl ?_
   refine mv rfl rfl ?_
   refine sx_guardT rfl rfl rfl ?_
   refine mv rfl rfl ?_
   refine sx_guardT rfl rfl rfl ?_
   refine sp rfl (px_lt rfl rfl) ?_
   refine sp rfl (px_pick rfl rfl) ?_
   refine wl_nil (q_n (k64 _ _ ?_))
   refine sx_sub (Sub.c 0 rfl (.c 1 rfl (.c 2 rfl (.c 3 rfl (.c 4 rfl (.c 18 rfl (.c 20 rfl (.c 24 rfl (.c 185 rfl .nil))))))))) ?_
   refine sx_condP rfl (fun h449x1 => ?_) (fun h449x1 => ?_)
   ·
    refine sx_region ?_
    refine mv rfl rfl (mv rfl rfl (mv rfl rfl (mv rfl rfl (mv rfl rfl ?_))))
    have f65 := hvd.ext cwl51
    refine sx_call rfl rfl Try.call104 (c_rotNone f65 (by omega)) (fun v66 w66 p66 => ?_)
    obtain ⟨rfl, c66⟩ := p66
    have zw66 := c66.size
    refine wl_nil (q_n (k63 _ _ ?_))
    refine sx_sub (Sub.c 0 rfl (.c 1 rfl (.c 3 rfl (.c 4 rfl (.c 18 rfl (.c 20 rfl (.c 24 rfl .nil))))))) ?_
    refine sx_seq fun K67 k67 => ?_
    refine sx_seq fun K68 k68 => sx_region ?_
    refine mv rfl rfl (mv rfl rfl (sp rfl (px_lt rfl rfl) ?_))
    refine mv rfl rfl ?_
    refine sx_tmpP (t := 195) rfl (fun h452 => ?_) (fun h452 => ?_)
    ·
     refine sx_guardT rfl rfl rfl ?_
     refine mv rfl rfl ?_
     refine sx_guardT rfl rfl rfl ?_
     refine mv rfl rfl ?_
     refine sx_guardT rfl rfl rfl ?_
     refine sp rfl (px_lt rfl rfl) ?_
     refine sp rfl (px_pick rfl rfl) ?_
     refine wl_nil (q_n (k68 _ _ ?_))
     refine sx_sub (Sub.c 0 rfl (.c 1 rfl (.c 3 rfl (.c 4 rfl (.c 18 rfl (.c 20 rfl (.c 24 rfl (.c 199 rfl .nil)))))))) ?_
     refine sx_condP rfl (fun h452x1 => ?_) (fun h452x1 => ?_)
     ·
      refine sx_region ?_
      refine mv rfl rfl (mv rfl rfl (mv rfl rfl (mv rfl rfl (mv rfl rfl ?_))))
      have f69 := f65.ext c66
      refine sx_call rfl rfl Try.call103 (c_symMergeE0 f69 (by omega) (by omega) (by assumption) (by assumption)) (fun v70 w70 p70 => ?_)
      obtain ⟨rfl, c70⟩ := p70
      have zw70 := c70.size
      refine wl_nil (q_n (k67 _ _ ?_))
      refine sx_seq fun K71 k71 => sx_region ?_
      refine mv rfl rfl (mv rfl rfl (sp rfl (px_lt rfl rfl) ?_))
      refine mv rfl rfl ?_
      refine sx_tmpP (t := 209) rfl (fun h455 => ?_) (fun h455 => ?_)
      ·
       refine sx_guardT rfl rfl rfl ?_
       refine mv rfl rfl ?_
       refine sx_guardT rfl rfl rfl ?_
       refine mv rfl rfl ?_
       refine sx_guardT rfl rfl rfl ?_
       refine sp rfl (px_lt rfl rfl) ?_
       refine sp rfl (px_pick rfl rfl) ?_
       refine wl_nil (q_n (k71 _ _ ?_))
       refine sx_sub (Sub.c 0 rfl (.c 3 rfl (.c 4 rfl (.c 18 rfl (.c 24 rfl (.c 213 rfl .nil)))))) ?_
       refine sx_condP rfl (fun h455x1 => ?_) (fun h455x1 => ?_)
       ·
        refine sx_region ?_
        refine mv rfl rfl (mv rfl rfl (mv rfl rfl (mv rfl rfl (mv rfl rfl ?_))))
        have f72 := f69.ext c70
        refine sx_call rfl rfl Try.call103 (c_symMergeE0 f72 (by omega) (by omega) (by assumption) (by assumption)) (fun v73 w73 p73 => ?_)
        obtain ⟨rfl, c73⟩ := p73
        have zw73 := c73.size
        refine wl_nil ?_
        refine sx_end0 rfl ?_
        exact ⟨rfl, (((cwl51.t c66).t c70).t c73)⟩
       refine sx_skip ?_
       refine sx_end0 rfl ?_
       exact ⟨rfl, ((cwl51.t c66).t c70)⟩
      refine sx_guardF rfl rfl rfl rfl rfl rfl ?_
      refine sx_guardF rfl rfl rfl rfl rfl rfl ?_
      refine sx_guardF rfl rfl rfl rfl rfl rfl ?_
      refine sp rfl (px_pick rfl rfl) ?_
      refine wl_nil (q_n (k71 _ _ ?_))
      refine sx_sub (Sub.c 0 rfl (.c 3 rfl (.c 4 rfl (.c 18 rfl (.c 24 rfl (.c 213 rfl .nil)))))) ?_
      refine sx_condF rfl ?_
      refine sx_skip ?_
      refine sx_end0 rfl ?_
      exact ⟨rfl, ((cwl51.t c66).t c70)⟩
     refine sx_skip ?_
     refine q_n (k67 _ _ ?_)
     refine sx_seq fun K74 k74 => sx_region ?_
     refine mv rfl rfl (mv rfl rfl (sp rfl (px_lt rfl rfl) ?_))
     refine mv rfl rfl ?_
     refine sx_tmpP (t := 209) rfl (fun h455 => ?_) (fun h455 => ?_)
     ·
      refine sx_guardT rfl rfl rfl ?_
      refine mv rfl rfl ?_
      refine sx_guardT rfl rfl rfl ?_
      refine mv rfl rfl ?_
      refine sx_guardT rfl rfl rfl ?_
      refine sp rfl (px_lt rfl rfl) ?_
      refine sp rfl (px_pick rfl rfl) ?_
      refine wl_nil (q_n (k74 _ _ ?_))
      refine sx_sub (Sub.c 0 rfl (.c 3 rfl (.c 4 rfl (.c 18 rfl (.c 24 rfl (.c 213 rfl .nil)))))) ?_
      refine sx_condP rfl (fun h455x1 => ?_) (fun h455x1 => ?_)
      ·
       refine sx_region ?_
       refine mv rfl rfl (mv rfl rfl (mv rfl rfl (mv rfl rfl (mv rfl rfl ?_))))
       have f75 := f65.ext c66
       refine sx_call rfl rfl Try.call103 (c_symMergeE0 f75 (by omega) (by omega) (by assumption) (by assumption)) (fun v76 w76 p76 => ?_)
       obtain ⟨rfl, c76⟩ := p76
       have zw76 := c76.size
       refine wl_nil ?_
       refine sx_end0 rfl ?_
       exact ⟨rfl, ((cwl51.t c66).t c76)⟩
      refine sx_skip ?_
      refine sx_end0 rfl ?_
      exact ⟨rfl, (cwl51.t c66)⟩
     refine sx_guardF rfl rfl rfl rfl rfl rfl ?_
     refine sx_guardF rfl rfl rfl rfl rfl rfl ?_
     refine sx_guardF rfl rfl rfl rfl rfl rfl ?_
     refine sp rfl (px_pick rfl rfl) ?_
     refine wl_nil (q_n (k74 _ _ ?_))
     refine sx_sub (Sub.c 0 rfl (.c 3 rfl (.c 4 rfl (.c 18 rfl (.c 24 rfl (.c 213 rfl .nil)))))) ?_
     refine sx_condF rfl ?_
     refine sx_skip ?_
     refine sx_end0 rfl ?_
     exact ⟨rfl, (cwl51.t c66)⟩
    refine sx_guardF rfl rfl rfl rfl rfl rfl ?_
    refine sx_guardF rfl rfl rfl rfl rfl rfl ?_
    refine sx_guardF rfl rfl rfl rfl rfl rfl ?_
    refine sp rfl (px_pick rfl rfl) ?_
    refine wl_nil (q_n (k68 _ _ ?_))
    refine sx_sub (Sub.c 0 rfl (.c 1 rfl (.c 3 rfl (.c 4 rfl (.c 18 rfl (.c 20 rfl (.c 24 rfl (.c 199 rfl .nil)))))))) ?_
    refine sx_condF rfl ?_
    refine sx_skip ?_
    refine q_n (k67 _ _ ?_)
    refine sx_seq fun K77 k77 => sx_region ?_
    refine mv rfl rfl (mv rfl rfl (sp rfl (px_lt rfl rfl) ?_))
    refine mv rfl rfl ?_
    refine sx_tmpP (t := 209) rfl (fun h455 => ?_) (fun h455 => ?_)
    ·
     refine sx_guardT rfl rfl rfl ?_
     refine mv rfl rfl ?_
     refine sx_guardT rfl rfl rfl ?_
     refine mv rfl rfl ?_
     refine sx_guardT rfl rfl rfl ?_
     refine sp rfl (px_lt rfl rfl) ?_
     refine sp rfl (px_pick rfl rfl) ?_
     refine wl_nil (q_n (k77 _ _ ?_))
     refine sx_sub (Sub.c 0 rfl (.c 3 rfl (.c 4 rfl (.c 18 rfl (.c 24 rfl (.c 213 rfl .nil)))))) ?_
     refine sx_condP rfl (fun h455x1 => ?_) (fun h455x1 => ?_)
     ·
      refine sx_region ?_
      refine mv rfl rfl (mv rfl rfl (mv rfl rfl (mv rfl rfl (mv rfl rfl ?_))))
      have f78 := f65.ext c66
      refine sx_call rfl rfl Try.call103 (c_symMergeE0 f78 (by omega) (by omega) (by assumption) (by assumption)) (fun v79 w79 p79 => ?_)
      obtain ⟨rfl, c79⟩ := p79
      have zw79 := c79.size
      refine wl_nil ?_
      refine sx_end0 rfl ?_
      exact ⟨rfl, ((cwl51.t c66).t c79)⟩
     refine sx_skip ?_
     refine sx_end0 rfl ?_
     exact ⟨rfl, (cwl51.t c66)⟩
    refine sx_guardF rfl rfl rfl rfl rfl rfl ?_
    refine sx_guardF rfl rfl rfl rfl rfl rfl ?_
    refine sx_guardF rfl rfl rfl rfl rfl rfl ?_
    refine sp rfl (px_pick rfl rfl) ?_
    refine wl_nil (q_n (k77 _ _ ?_))
    refine sx_sub (Sub.c 0 rfl (.c 3 rfl (.c 4 rfl (.c 18 rfl (.c 24 rfl (.c 213 rfl .nil)))))) ?_
    refine sx_condF rfl ?_
    refine sx_skip ?_
    refine sx_end0 rfl ?_
    exact ⟨rfl, (cwl51.t c66)⟩
   refine sx_skip ?_
   refine q_n (k63 _ _ ?_)
   refine sx_seq fun K80 k80 => ?_
   refine sx_seq fun K81 k81 => sx_region ?_
   refine mv rfl rfl (mv rfl rfl (sp rfl (px_lt rfl rfl) ?_))
   refine mv rfl rfl ?_
   refine sx_tmpP (t := 195) rfl (fun h452 => ?_) (fun h452 => ?_)
   ·
    refine sx_guardT rfl rfl rfl ?_
    refine mv rfl rfl ?_
    refine sx_guardT rfl rfl rfl ?_
    refine mv rfl rfl ?_
    refine sx_guardT rfl rfl rfl ?_
    refine sp rfl (px_lt rfl rfl) ?_
    refine sp rfl (px_pick rfl rfl) ?_
    refine wl_nil (q_n (k81 _ _ ?_))
    refine sx_sub (Sub.c 0 rfl (.c 1 rfl (.c 3 rfl (.c 4 rfl (.c 18 rfl (.c 20 rfl (.c 24 rfl (.c 199 rfl .nil)))))))) ?_
    refine sx_condP rfl (fun h452x1 => ?_) (fun h452x1 => ?_)
    ·
     refine sx_region ?_
     refine mv rfl rfl (mv rfl rfl (mv rfl rfl (mv rfl rfl (mv rfl rfl ?_))))
     have f82 := hvd.ext cwl51
     refine sx_call rfl rfl Try.call103 (c_symMergeE0 f82 (by omega) (by omega) (by assumption) (by assumption)) (fun v83 w83 p83 => ?_)
     obtain ⟨rfl, c83⟩ := p83
     have zw83 := c83.size
     refine wl_nil (q_n (k80 _ _ ?_))
     refine sx_seq fun K84 k84 => sx_region ?_
     refine mv rfl rfl (mv rfl rfl (sp rfl (px_lt rfl rfl) ?_))
     refine mv rfl rfl ?_
     refine sx_tmpP (t := 209) rfl (fun h455 => ?_) (fun h455 => ?_)
     ·
      refine sx_guardT rfl rfl rfl ?_
      refine mv rfl rfl ?_
      refine sx_guardT rfl rfl rfl ?_
      refine mv rfl rfl ?_
      refine sx_guardT rfl rfl rfl ?_
      refine sp rfl (px_lt rfl rfl) ?_
      refine sp rfl (px_pick rfl rfl) ?_
      refine wl_nil (q_n (k84 _ _ ?_))
      refine sx_sub (Sub.c 0 rfl (.c 3 rfl (.c 4 rfl (.c 18 rfl (.c 24 rfl (.c 213 rfl .nil)))))) ?_
      refine sx_condP rfl (fun h455x1 => ?_) (fun h455x1 => ?_)
      ·
       refine sx_region ?_
       refine mv rfl rfl (mv rfl rfl (mv rfl rfl (mv rfl rfl (mv rfl rfl ?_))))
       have f85 := f82.ext c83
       refine sx_call rfl rfl Try.call103 (c_symMergeE0 f85 (by omega) (by omega) (by assumption) (by assumption)) (fun v86 w86 p86 => ?_)
       obtain ⟨rfl, c86⟩ := p86
       have zw86 := c86.size
       refine wl_nil ?_
       refine sx_end0 rfl ?_
       exact ⟨rfl, ((cwl51.t c83).t c86)⟩
      refine sx_skip ?_
      refine sx_end0 rfl ?_
      exact ⟨rfl, (cwl51.t c83)⟩
     refine sx_guardF rfl rfl rfl rfl rfl rfl ?_
     refine sx_guardF rfl rfl rfl rfl rfl rfl ?_
     refine sx_guardF rfl rfl rfl rfl rfl rfl ?_
     refine sp rfl (px_pick rfl rfl) ?_
     refine wl_nil (q_n (k84 _ _ ?_))
     refine sx_sub (Sub.c 0 rfl (.c 3 rfl (.c 4 rfl (.c 18 rfl (.c 24 rfl (.c 213 rfl .nil)))))) ?_
     refine sx_condF rfl ?_
     refine sx_skip ?_
     refine sx_end0 rfl ?_
     exact ⟨rfl, (cwl51.t c83)⟩
    refine sx_skip ?_
    refine q_n (k80 _ _ ?_)
    refine sx_seq fun K87 k87 => sx_region ?_
    refine mv rfl rfl (mv rfl rfl (sp rfl (px_lt rfl rfl) ?_))
    refine mv rfl rfl ?_
    refine sx_tmpP (t := 209) rfl (fun h455 => ?_) (fun h455 => ?_)
    ·
     refine sx_guardT rfl rfl rfl ?_
     refine mv rfl rfl ?_
     refine sx_guardT rfl rfl rfl ?_
     refine mv rfl rfl ?_
     refine sx_guardT rfl rfl rfl ?_
     refine sp rfl (px_lt rfl rfl) ?_
     refine sp rfl (px_pick rfl rfl) ?_
     refine wl_nil (q_n (k87 _ _ ?_))
     refine sx_sub (Sub.c 0 rfl (.c 3 rfl (.c 4 rfl (.c 18 rfl (.c 24 rfl (.c 213 rfl .nil)))))) ?_
     refine sx_condP rfl (fun h455x1 => ?_) (fun h455x1 => ?_)
     ·
      refine sx_region ?_
      refine mv rfl rfl (mv rfl rfl (mv rfl rfl (mv rfl rfl (mv rfl rfl ?_))))
      have f88 := hvd.ext cwl51
      refine sx_call rfl rfl Try.call103 (c_symMergeE0 f88 (by omega) (by omega) (by assumption) (by assumption)) (fun v89 w89 p89 => ?_)
      obtain ⟨rfl, c89⟩ := p89
      have zw89 := c89.size
      refine wl_nil ?_
      refine sx_end0 rfl ?_
      exact ⟨rfl, (cwl51.t c89)⟩
     refine sx_skip ?_
     refine sx_end0 rfl ?_
     exact ⟨rfl, cwl51⟩
    refine sx_guardF rfl rfl rfl rfl rfl rfl ?_
    refine sx_guardF rfl rfl rfl rfl rfl rfl ?_
    refine sx_guardF rfl rfl rfl rfl rfl rfl ?_
    refine sp rfl (px_pick rfl rfl) ?_
    refine wl_nil (q_n (k87 _ _ ?_))
    refine sx_sub (Sub.c 0 rfl (.c 3 rfl (.c 4 rfl (.c 18 rfl (.c 24 rfl (.c 213 rfl .nil)))))) ?_
    refine sx_condF rfl ?_
    refine sx_skip ?_
    refine sx_end0 rfl ?_
    exact ⟨rfl, cwl51⟩
   refine sx_guardF rfl rfl rfl rfl rfl rfl ?_
   refine sx_guardF rfl rfl rfl rfl rfl rfl ?_
   refine sx_guardF rfl rfl rfl rfl rfl rfl ?_
   refine sp rfl (px_pick rfl rfl) ?_
   refine wl_nil (q_n (k81 _ _ ?_))
   refine sx_sub (Sub.c 0 rfl (.c 1 rfl (.c 3 rfl (.c 4 rfl (.c 18 rfl (.c 20 rfl (.c 24 rfl (.c 199 rfl .nil)))))))) ?_
   refine sx_condF rfl ?_
   refine sx_skip ?_
   refine q_n (k80 _ _ ?_)
   refine sx_seq fun K90 k90 => sx_region ?_
   refine mv rfl rfl (mv rfl rfl (sp rfl (px_lt rfl rfl) ?_))
   refine mv rfl rfl ?_
   refine sx_tmpP (t := 209) rfl (fun h455 => ?_) (fun h455 => ?_)
   ·
    refine sx_guardT rfl rfl rfl ?_
    refine mv rfl rfl ?_
    refine sx_guardT rfl rfl rfl ?_
    refine mv rfl rfl ?_
    refine sx_guardT rfl rfl rfl ?_
    refine sp rfl (px_lt rfl rfl) ?_
    refine sp rfl (px_pick rfl rfl) ?_
    refine wl_nil (q_n (k90 _ _ ?_))
    refine sx_sub (Sub.c 0 rfl (.c 3 rfl (.c 4 rfl (.c 18 rfl (.c 24 rfl (.c 213 rfl .nil)))))) ?_
    refine sx_condP rfl (fun h455x1 => ?_) (fun h455x1 => ?_)
    ·
     refine sx_region ?_
     refine mv rfl rfl (mv rfl rfl (mv rfl rfl (mv rfl rfl (mv rfl rfl ?_))))
     have f91 := hvd.ext cwl51
     refine sx_call rfl rfl Try.call103 (c_symMergeE0 f91 (by omega) (by omega) (by assumption) (by assumption)) (fun v92 w92 p92 => ?_)
     obtain ⟨rfl, c92⟩ := p92
     have zw92 := c92.size
     refine wl_nil ?_
     refine sx_end0 rfl ?_
     exact ⟨rfl, (cwl51.t c92)⟩
    refine sx_skip ?_
    refine sx_end0 rfl ?_
    exact ⟨rfl, cwl51⟩
   refine sx_guardF rfl rfl rfl rfl rfl rfl ?_
   refine sx_guardF rfl rfl rfl rfl rfl rfl ?_
   refine sx_guardF rfl rfl rfl rfl rfl rfl ?_
   refine sp rfl (px_pick rfl rfl) ?_
   refine wl_nil (q_n (k90 _ _ ?_))
   refine sx_sub (Sub.c 0 rfl (.c 3 rfl (.c 4 rfl (.c 18 rfl (.c 24 rfl (.c 213 rfl .nil)))))) ?_
   refine sx_condF rfl ?_
   refine sx_skip ?_
   refine sx_end0 rfl ?_
   exact ⟨rfl, cwl51⟩
  refine sx_guardF rfl rfl rfl rfl rfl rfl ?_
  refine sx_guardF rfl rfl rfl rfl rfl rfl ?_
  refine sx_guardF rfl rfl rfl rfl rfl rfl ?_
  refine sp rfl (px_pick rfl rfl) ?_
  refine wl_nil (q_n (k64 _ _ ?_))
  refine sx_sub (Sub.c 0 rfl (.c 1 rfl (.c 2 rfl (.c 3 rfl (.c 4 rfl (.c 18 rfl (.c 20 rfl (.c 24 rfl (.c 185 rfl .nil))))))))) ?_
  refine sx_condF rfl ?_
  refine sx_skip ?_
  refine q_n (k63 _ _ ?_)
  refine sx_seq fun K93 k93 => ?_
  refine sx_seq fun K94 k94 => sx_region ?_
  refine mv rfl rfl (mv rfl rfl (sp rfl (px_lt rfl rfl) ?_))
  refine mv rfl rfl ?_
  refine sx_tmpP (t := 195) rfl (fun h452 => ?_) (fun h452 => ?_)
  ·
   refine sx_guardT rfl rfl rfl ?_
   refine mv rfl rfl ?_
   refine sx_guardT rfl rfl rfl ?_
   refine mv rfl rfl ?_
   refine sx_guardT rfl rfl rfl ?_
   refine sp rfl (px_lt rfl rfl) ?_
   refine sp rfl (px_pick rfl rfl) ?_
   refine wl_nil (q_n (k94 _ _ ?_))
   refine sx_sub (Sub.c 0 rfl (.c 1 rfl (.c 3 rfl (.c 4 rfl (.c 18 rfl (.c 20 rfl (.c 24 rfl (.c 199 rfl .nil)))))))) ?_
   refine sx_condP rfl (fun h452x1 => ?_) (fun h452x1 => ?_)
   ·
    refine sx_region ?_
    refine mv rfl rfl (mv rfl rfl (mv rfl rfl (mv rfl rfl (mv rfl rfl ?_))))
    have f95 := hvd.ext cwl51
    refine sx_call rfl rfl Try.call103 (c_symMergeE0 f95 (by omega) (by omega) (by assumption) (by assumption)) (fun v96 w96 p96 => ?_)
    obtain ⟨rfl, c96⟩ := p96
    have zw96 := c96.size
    refine wl_nil (q_n (k93 _ _ ?_))
    refine sx_seq fun K97 k97 => sx_region ?_
    refine mv rfl rfl (mv rfl rfl (sp rfl (px_lt rfl rfl) ?_))
    refine mv rfl rfl ?_
    refine sx_tmpP (t := 209) rfl (fun h455 => ?_) (fun h455 => ?_)
    ·
     refine sx_guardT rfl rfl rfl ?_
     refine mv rfl rfl ?_
     refine sx_guardT rfl rfl rfl ?_
     refine mv rfl rfl ?_
     refine sx_guardT rfl rfl rfl ?_
     refine sp rfl (px_lt rfl rfl) ?_
     refine sp rfl (px_pick rfl rfl) ?_
     refine wl_nil (q_n (k97 _ _ ?_))
     refine sx_sub (Sub.c 0 rfl (.c 3 rfl (.c 4 rfl (.c 18 rfl (.c 24 rfl (.c 213 rfl .nil)))))) ?_
     refine sx_condP rfl (fun h455x1 => ?_) (fun h455x1 => ?_)
     ·
      refine sx_region ?_
      refine mv rfl rfl (mv rfl rfl (mv rfl rfl (mv rfl rfl (mv rfl rfl ?_))))
      have f98 := f95.ext c96
      refine sx_call rfl rfl Try.call103 (c_symMergeE0 f98 (by omega) (by omega) (by assumption) (by assumption)) (fun v99 w99 p99 => ?_)
      obtain ⟨rfl, c99⟩ := p99
      have zw99 := c99.size
      refine wl_nil ?_
      refine sx_end0 rfl ?_
      exact ⟨rfl, ((cwl51.t c96).t c99)⟩
     refine sx_skip ?_
     refine sx_end0 rfl ?_
     exact ⟨rfl, (cwl51.t c96)⟩
    refine sx_guardF rfl rfl rfl rfl rfl rfl ?_
    refine sx_guardF rfl rfl rfl rfl rfl rfl ?_
    refine sx_guardF rfl rfl rfl rfl rfl rfl ?_
    refine sp rfl (px_pick rfl rfl) ?_
    refine wl_nil (q_n (k97 _ _ ?_))
    refine sx_sub (Sub.c 0 rfl (.c 3 rfl (.c 4 rfl (.c 18 rfl (.c 24 rfl (.c 213 rfl .nil)))))) ?_
    refine sx_condF rfl ?_
    refine sx_skip ?_
    refine sx_end0 rfl ?_
    exact ⟨rfl, (cwl51.t c96)⟩
   refine sx_skip ?_
   refine q_n (k93 _ _ ?_)
   refine sx_seq fun K100 k100 => sx_region ?_
   refine mv rfl rfl (mv rfl rfl (sp rfl (px_lt rfl rfl) ?_))
   refine mv rfl rfl ?_
   refine sx_tmpP (t := 209) rfl (fun h455 => ?_) (fun h455 => ?_)
   ·
    refine sx_guardT rfl rfl rfl ?_
    refine mv rfl rfl ?_
    refine sx_guardT rfl rfl rfl ?_
    refine mv rfl rfl ?_
    refine sx_guardT rfl rfl rfl ?_
    refine sp rfl (px_lt rfl rfl) ?_
    refine sp rfl (px_pick rfl rfl) ?_
    refine wl_nil (q_n (k100 _ _ ?_))
    refine sx_sub (Sub.c 0 rfl (.c 3 rfl (.c 4 rfl (.c 18 rfl (.c 24 rfl (.c 213 rfl .nil)))))) ?_
    refine sx_condP rfl (fun h455x1 => ?_) (fun h455x1 => ?_)
    ·
     refine sx_region ?_
     refine mv rfl rfl (mv rfl rfl (mv rfl rfl (mv rfl rfl (mv rfl rfl ?_))))
     have f101 := hvd.ext cwl51
     refine sx_call rfl rfl Try.call103 (c_symMergeE0 f101 (by omega) (by omega) (by assumption) (by assumption)) (fun v102 w102 p102 => ?_)
     obtain ⟨rfl, c102⟩ := p102
     have zw102 := c102.size
     refine wl_nil ?_
     refine sx_end0 rfl ?_
     exact ⟨rfl, (cwl51.t c102)⟩
    refine sx_skip ?_
    refine sx_end0 rfl ?_
    exact ⟨rfl, cwl51⟩
   refine sx_guardF rfl rfl rfl rfl rfl rfl ?_
   refine sx_guardF rfl rfl rfl rfl rfl rfl ?_
   refine sx_guardF rfl rfl rfl rfl rfl rfl ?_
   refine sp rfl (px_pick rfl rfl) ?_
   refine wl_nil (q_n (k100 _ _ ?_))
   refine sx_sub (Sub.c 0 rfl (.c 3 rfl (.c 4 rfl (.c 18 rfl (.c 24 rfl (.c 213 rfl .nil)))))) ?_
   refine sx_condF rfl ?_
   refine sx_skip ?_
   refine sx_end0 rfl ?_
   exact ⟨rfl, cwl51⟩
  refine sx_guardF rfl rfl rfl rfl rfl rfl ?_
  refine sx_guardF rfl rfl rfl rfl rfl rfl ?_
  refine sx_guardF rfl rfl rfl rfl rfl rfl ?_
  refine sp rfl (px_pick rfl rfl) ?_
  refine wl_nil (q_n (k94 _ _ ?_))
  refine sx_sub (Sub.c 0 rfl (.c 1 rfl (.c 3 rfl (.c 4 rfl (.c 18 rfl (.c 20 rfl (.c 24 rfl (.c 199 rfl .nil)))))))) ?_
  refine sx_condF rfl ?_
  refine sx_skip ?_
  refine q_n (k93 _ _ ?_)
  refine sx_seq fun K103 k103 => sx_region ?_
  refine mv rfl rfl (mv rfl rfl (sp rfl (px_lt rfl rfl) ?_))
  refine mv rfl rfl ?_
  refine sx_tmpP (t := 209) rfl (fun h455 => ?_) (fun h455 => ?_)
  ·
   refine sx_guardT rfl rfl rfl ?_
   refine mv rfl rfl ?_
   refine sx_guardT rfl rfl rfl ?_
   refine mv rfl rfl ?_
   refine sx_guardT rfl rfl rfl ?_
   refine sp rfl (px_lt rfl rfl) ?_
   refine sp rfl (px_pick rfl rfl) ?_
   refine wl_nil (q_n (k103 _ _ ?_))
   refine sx_sub (Sub.c 0 rfl (.c 3 rfl (.c 4 rfl (.c 18 rfl (.c 24 rfl (.c 213 rfl .nil)))))) ?_
   refine sx_condP rfl (fun h455x1 => ?_) (fun h455x1 => ?_)
   ·
    refine sx_region ?_
    refine mv rfl rfl (mv rfl rfl (mv rfl rfl (mv rfl rfl (mv rfl rfl ?_))))
    have f104 := hvd.ext cwl51
    refine sx_call rfl rfl Try.call103 (c_symMergeE0 f104 (by omega) (by omega) (by assumption) (by assumption)) (fun v105 w105 p105 => ?_)
    obtain ⟨rfl, c105⟩ := p105
    have zw105 := c105.size
    refine wl_nil ?_
    refine sx_end0 rfl ?_
    exact ⟨rfl, (cwl51.t c105)⟩
   refine sx_skip ?_
   refine sx_end0 rfl ?_
   exact ⟨rfl, cwl51⟩
  refine sx_guardF rfl rfl rfl rfl rfl rfl ?_
  refine sx_guardF rfl rfl rfl rfl rfl rfl ?_
  refine sx_guardF rfl rfl rfl rfl rfl rfl ?_
  refine sp rfl (px_pick rfl rfl) ?_
  refine wl_nil (q_n (k103 _ _ ?_))
  refine sx_sub (Sub.c 0 rfl (.c 3 rfl (.c 4 rfl (.c 18 rfl (.c 24 rfl (.c 213 rfl .nil)))))) ?_
  refine sx_condF rfl ?_
  refine sx_skip ?_
  refine sx_end0 rfl ?_
  exact ⟨rfl, cwl51⟩
 refine sx_seq fun K106 k106 => sx_region ?_
 refine mv rfl rfl (av rfl rfl (wl_nil (q_n (k106 _ _ ?_))))
 refine sx_region ?_
 refine mv rfl rfl (av rfl rfl (wl_nil (q_n (k46 _ _ ?_))))
 refine sx_seq fun K107 k107 => sx_region ?_
 refine mv rfl rfl (sp rfl (px_sub rfl rfl (by omega)) ?_)
 refine av rfl rfl (wl_nil (q_n (k107 _ _ ?_)))
 refine sx_sub (Sub.c 0 rfl (.c 1 rfl (.c 2 rfl (.c 3 rfl (.c 4 rfl (.c 18 rfl (.c 19 rfl (.c 20 rfl (.c 21 rfl (.c 22 rfl .nil)))))))))) ?_
 refine sx_seq fun K108 k108 => ?_
 refine sx_block ?_
 refine sx_loop (fun mm aa w' => ∃ (s : Int), Agr 220 [(0, vd), (1, .int .i64 ia), (2, .int .i64 im), (3, .int .i64 ib), (4, .func (.func 33) #[] #[]), (18, .int .i64 ((ia + ib) / 2)), (19, .int .i64 (((ia + ib) / 2) + im)), (20, .int .i64 s), (21, .int .i64 im), (22, .int .i64 ((((ia + ib) / 2) + im) - 1))] aa ∧ Chg 0 0 w w' ∧ (mm = (im - s).toNat) ∧ (ia ≤ s ∧ s ≤ im)) (_) (fun a ha => ⟨ia, ha.sub (Sub.c 0 rfl (.c 1 rfl (.c 2 rfl (.c 3 rfl (.c 4 rfl (.c 18 rfl (.c 19 rfl (.c 20 (look_int (t := 20) rfl (by first | omega | simp)) (.c 21 rfl (.c 22 rfl .nil)))))))))), Chg.refl _ _ _, rfl, by omega⟩) ?_
 rintro mm aa wl109 ⟨s, hAwl109, cwl109, hm, hs⟩
 refine (show cw Try.prog 220 _ _ _ wl109 from ?_) aa hAwl109
 clear hAwl109
 have zwl109 := cwl109.size
 refine sx_seq fun K110 k110 => ?_
 refine sx_seq fun K111 k111 => sx_region ?_
 refine mv rfl rfl (mv rfl rfl (sp rfl (px_lt rfl rfl) ?_))
 refine wl_nil (q_n (k111 _ _ ?_))
 refine sx_condP rfl (fun h439 => ?_) (fun h439 => ?_)
 ·
  refine sx_skip ?_
  refine q_n (k110 _ _ ?_)
  refine sx_block ?_
  refine sx_seq fun K112 k112 => sx_region ?_
  refine mv rfl rfl (mv rfl rfl (sp rfl (px_add rfl rfl (by omega)) ?_))
  refine sp rfl (px_convU Try.underlying3 Try.underlying108 rfl (by omega)) ?_
  refine sp rfl (px_shrU1 rfl rfl) ?_
  refine sp rfl (px_convI Try.underlying108 Try.underlying3 rfl (by omega)) ?_
  refine av rfl rfl (wl_nil (q_n (k112 _ _ ?_)))
  refine sx_sub (Sub.c 0 rfl (.c 1 rfl (.c 2 rfl (.c 3 rfl (.c 4 rfl (.c 18 rfl (.c 19 rfl (.c 20 rfl (.c 21 rfl (.c 22 rfl (.c 23 rfl .nil))))))))))) ?_
  refine sx_seq fun K113 k113 => ?_
  have f114 := hvd.ext cwl109
  refine dx_region (fun w' => Chg 0 0 wl109 w') (by kernel_rfl) (Chg.zero (Chg.drew _)) ?_
  have d115 := Chg.drew wl109
  have s115 : Chg 0 0 wl109 (World.drew wl109) := Chg.zero (Chg.drew _)
  have y115 : (World.drew wl109).heap.size = wl109.heap.size := rfl
  generalize World.drew wl109 = w115 at *
  have zw115 := d115.size
  refine dt 0 rfl rfl rfl rfl s115 (fun _ hS => px_move rfl) ?_
  refine dt 1 rfl rfl rfl rfl s115 (fun _ hS => px_move rfl) ?_
  refine dt 2 rfl rfl rfl rfl s115 (fun _ hS => px_move rfl) ?_
  refine dt 3 rfl rfl rfl rfl s115 (fun _ hS => px_move rfl) ?_
  refine dt 4 rfl rfl rfl rfl s115 (fun _ hS => px_sub rfl rfl (by omega)) ?_
  refine dt 5 rfl rfl rfl rfl s115 (fun _ hS => px_indexK (j := (((((ia + ib) / 2) + im) - 1).toNat - ((s + im) / 2).toNat)) rfl rfl (by omega) Try.underlying61 Try.sizeOf66 ((f114.sv).chg hS (by omega)) (by omega)) ?_
  refine dt 6 rfl rfl rfl rfl s115 (fun _ hS => px_load rfl (((f114.sv).chg hS (by omega)).loadA (pt_look (by first | omega | (simp only [List.length_set]; omega))) Try.isAgg66 Try.sizeOf66)) ?_
  refine dt 7 rfl rfl rfl rfl s115 (fun _ hS => px_move rfl) ?_
  refine dt 8 rfl rfl rfl rfl s115 (fun _ hS => px_move rfl) ?_
  refine dt 9 rfl rfl rfl rfl s115 (fun _ hS => px_indexK (j := ((s + im) / 2).toNat) rfl rfl (by omega) Try.underlying61 Try.sizeOf66 ((f114.sv).chg hS (by omega)) (by omega)) ?_
  refine dt 10 rfl rfl rfl rfl s115 (fun _ hS => px_load rfl (((f114.sv).chg hS (by omega)).loadA (pt_look (by first | omega | (simp only [List.length_set]; omega))) Try.isAgg66 Try.sizeOf66)) ?_
  refine dx_eff 11 rfl (by kernel_rfl) ?_
  have f116 := (f114.rest (j := ((((ia + ib) / 2) + im) - 1).toNat - ((s + im) / 2).toNat) (by first | omega | (simp only [List.length_set]; omega))).ext d115
  have f117 := (f114.rest (j := ((s + im) / 2).toNat) (by first | omega | (simp only [List.length_set]; omega))).ext d115
  refine sx_callV rfl rfl rfl Try.call33 (c_before f116 f117 (⟨hr _, hr _⟩)) (fun v118 w118 p118 => ?_)
  obtain ⟨rfl, c118⟩ := p118
  have zw118 := c118.size
  have s119 : Chg 0 0 wl109 w118 := (d115.t c118)
  refine wl_nil ?_
  refine dx_next s119 ?_
  refine dt 12 rfl rfl rfl rfl s119 (fun _ hS => px_lt rfl rfl) ?_
  refine dt 13 rfl rfl rfl rfl s119 (fun _ hS => px_notP rfl) ?_
  refine dx_done (by kernel_rfl) ?_
  refine q_n (k113 _ _ ?_)
  refine sx_sub (Sub.c 0 rfl (.c 1 rfl (.c 2 rfl (.c 3 rfl (.c 4 rfl (.c 18 rfl (.c 19 rfl (.c 20 rfl (.c 21 rfl (.c 22 rfl (.c 23 rfl (.c 171 rfl .nil)))))))))))) ?_
  have h441 : ¬ ((orC (r (ix.getD (((((ia + ib) / 2) + im) - 1).toNat - ((s + im) / 2).toNat) 0)) (r (ix.getD (((s + im) / 2).toNat) 0)) (((ix.getD (((((ia + ib) / 2) + im) - 1).toNat - ((s + im) / 2).toNat) 0) : Nat) : Int) (((ix.getD (((s + im) / 2).toNat) 0) : Nat) : Int) : Int) < 0) := fun hb => bef_asymm (hS _ _ (by omega) (by omega)) (orC_neg.1 hb)
  refine sx_condPT rfl h441 ?_
  refine sx_region ?_
  refine mv rfl rfl (sp rfl (px_add rfl rfl (by omega)) ?_)
  refine av rfl rfl (wl_nil ?_)
  exact q_bn (fun a ha => ⟨_, by omega, (((s + im) / 2) + 1), ha.sub (Sub.c 0 rfl (.c 1 rfl (.c 2 rfl (.c 3 rfl (.c 4 rfl (.c 18 rfl (.c 19 rfl (.c 20 (look_int (t := 20) rfl (by first | omega | simp)) (.c 21 rfl (.c 22 rfl .nil)))))))))), ((cwl109.t d115).t c118), rfl, by omega⟩)
 refine sx_exit ?_
 refine q_e (q_e (q_bx (q_n (k108 _ _ ?_))))
 refine sx_seq fun K120 k120 => sx_region ?_
 refine mv rfl rfl (mv rfl rfl (sp rfl (px_sub rfl rfl (by omega)) ?_))
 refine av rfl rfl (wl_nil (q_n (k120 _ _ ?_)))
 refine sx_sub (Sub.c 0 rfl (.c 1 rfl (.c 2 rfl (.c 3 rfl (.c 4 rfl (.c 18 rfl (.c 20 rfl (.c 24 rfl .nil)))))))) ?_
 refine sx_seq fun K121 k121 => ?_
 refine sx_seq fun K122 k122 => sx_region ?_
 refine mv rfl rfl (mv rfl rfl (sp rfl (px_lt rfl rfl) ?_))
 refine mv rfl rfl ?_
 refine sx_tmpP (t := 181) rfl (fun h449 => ?_) (fun h449 => ?_)
 ·
  refine sx_guardT rfl rfl rfl ?_
  refine mv rfl rfl ?_
  refine sx_guardT rfl rfl rfl ?_
  refine mv rfl rfl ?_
  refine sx_guardT rfl rfl rfl ?_
  refine sp rfl (px_lt rfl rfl) ?_
  refine sp rfl (px_pick rfl rfl) ?_
  refine wl_nil (q_n (k122 _ _ ?_))
  refine sx_sub (Sub.c 0 rfl (.c 1 rfl (.c 2 rfl (.c 3 rfl (.c 4 rfl (.c 18 rfl (.c 20 rfl (.c 24 rfl (.c 185 rfl .nil))))))))) ?_
  refine sx_condP rfl (fun h449x1 => ?_) (fun h449x1 => ?_)
  ·
   refine sx_region ?_
   refine mv rfl rfl (mv rfl rfl (mv rfl rfl (mv rfl rfl (mv rfl rfl ?_))))
   have f123 := hvd.ext cwl109
   refine sx_call rfl rfl Try.call104 (c_rotNone f123 (by omega)) (fun v124 w124 p124 => ?_)
   obtain ⟨rfl, c124⟩ := p124
   have zw124 := c124.size
   refine wl_nil (q_n (k121 _ _ ?_))
   refine sx_sub (Sub.c 0 rfl (.c 1 rfl (.c 3 rfl (.c 4 rfl (.c 18 rfl (.c 20 rfl (.c 24 rfl .nil))))))) ?_
   refine sx_seq fun K125 k125 => ?_
   refine sx_seq fun K126 k126 => sx_region ?_
   refine mv rfl rfl (mv rfl rfl (sp rfl (px_lt rfl rfl) ?_))
   refine mv rfl rfl ?_
   refine sx_tmpP (t := 195) rfl (fun h452 => ?_) (fun h452 => ?_)
   ·
    refine sx_guardT rfl rfl rfl ?_
    refine mv rfl rfl ?_
    refine sx_guardT rfl rfl rfl ?_
    refine mv rfl rfl ?_
    refine sx_guardT rfl rfl rfl ?_
    refine sp rfl (px_lt rfl rfl) ?_
    refine sp rfl (px_pick rfl rfl) ?_
    refine wl_nil (q_n (k126 _ _ ?_))
    refine sx_sub (Sub.c 0 rfl (.c 1 rfl (.c 3 rfl (.c 4 rfl (.c 18 rfl (.c 20 rfl (.c 24 rfl (.c 199 rfl .nil)))))))) ?_
    refine sx_condP rfl (fun h452x1 => ?_) (fun h452x1 => ?_)
    ·
     refine sx_region ?_
     refine mv rfl rfl (mv rfl rfl (mv rfl rfl (mv rfl rfl (mv rfl rfl ?_))))
     have f127 := f123.ext c124
     refine sx_call rfl rfl Try.call103 (c_symMergeE0 f127 (by omega) (by omega) (by assumption) (by assumption)) (fun v128 w128 p128 => ?_)
     obtain ⟨rfl, c128⟩ := p128
     have zw128 := c128.size
     refine wl_nil (q_n (k125 _ _ ?_))
     refine sx_seq fun K129 k129 => sx_region ?_
     refine mv rfl rfl (mv rfl rfl (sp rfl (px_lt rfl rfl) ?_))
     refine mv rfl rfl ?_
     refine sx_tmpP (t := 209) rfl (fun h455 => ?_) (fun h455 => ?_)
     ·
      refine sx_guardT rfl rfl rfl ?_
      refine mv rfl rfl ?_
      refine sx_guardT rfl rfl rfl ?_
      refine mv rfl rfl ?_
      refine sx_guardT rfl rfl rfl ?_
      refine sp rfl (px_lt rfl rfl) ?_
      refine sp rfl (px_pick rfl rfl) ?_
      refine wl_nil (q_n (k129 _ _ ?_))
      refine sx_sub (Sub.c 0 rfl (.c 3 rfl (.c 4 rfl (.c 18 rfl (.c 24 rfl (.c 213 rfl .nil)))))) ?_
      refine sx_condP rfl (fun h455x1 => ?_) (fun h455x1 => ?_)
      ·
       refine sx_region ?_
       refine mv rfl rfl (mv rfl rfl (mv rfl rfl (mv rfl rfl (mv rfl rfl ?_))))
       have f130 := f127.ext c128
       refine sx_call rfl rfl Try.call103 (c_symMergeE0 f130 (by omega) (by omega) (by assumption) (by assumption)) (fun v131 w131 p131 => ?_)
       obtain ⟨rfl, c131⟩ := p131
       have zw131 := c131.size
       refine wl_nil ?_
       refine sx_end0 rfl ?_
       exact ⟨rfl, (((cwl109.t c124).t c128).t c131)⟩
      refine sx_skip ?_
      refine sx_end0 rfl ?_
      exact ⟨rfl, ((cwl109.t c124).t c128)⟩
     refine sx_guardF rfl rfl rfl rfl rfl rfl ?_
     refine sx_guardF rfl rfl rfl rfl rfl rfl ?_
     refine sx_guardF rfl rfl rfl rfl rfl rfl ?_
     refine sp rfl (px_pick rfl rfl) ?_
     refine wl_nil (q_n (k129 _ _ ?_))
     refine sx_sub (Sub.c 0 rfl (.c 3 rfl (.c 4 rfl (.c 18 rfl (.c 24 rfl (.c 213 rfl .nil)))))) ?_
     refine sx_condF rfl ?_
     refine sx_skip ?_
     refine sx_end0 rfl ?_
     exact ⟨rfl, ((cwl109.t c124).t c128)⟩
    refine sx_skip ?_
    refine q_n (k125 _ _ ?_)
    refine sx_seq fun K132 k132 => sx_region ?_
    refine mv rfl rfl (mv rfl rfl (sp rfl (px_lt rfl rfl) ?_))
    refine mv rfl rfl ?_
    refine sx_tmpP (t := 209) rfl (fun h455 => ?_) (fun h455 => ?_)
    ·
     refine sx_guardT rfl rfl rfl ?_
     refine mv rfl rfl ?_
     refine sx_guardT rfl rfl rfl ?_
     refine mv rfl rfl ?_
     refine sx_guardT rfl rfl rfl ?_
     refine sp rfl (px_lt rfl rfl) ?_
     refine sp rfl (px_pick rfl rfl) ?_
     refine wl_nil (q_n (k132 _ _ ?_))
     refine sx_sub (Sub.c 0 rfl (.c 3 rfl (.c 4 rfl (.c 18 rfl (.c 24 rfl (.c 213 rfl .nil)))))) ?_
     refine sx_condP rfl (fun h455x1 => ?_) (fun h455x1 => ?_)
     ·
      refine sx_region ?_
      refine mv rfl rfl (mv rfl rfl (mv rfl rfl (mv rfl rfl (mv rfl rfl ?_))))
      have f133 := f123.ext c124
      refine sx_call rfl rfl Try.call103 (c_symMergeE0 f133 (by omega) (by omega) (by assumption) (by assumption)) (fun v134 w134 p134 => ?_)
      obtain ⟨rfl, c134⟩ := p134
      have zw134 := c134.size
      refine wl_nil ?_
      refine sx_end0 rfl ?_
      exact ⟨rfl, ((cwl109.t c124).t c134)⟩
     refine sx_skip ?_
     refine sx_end0 rfl ?_
     exact ⟨rfl, (cwl109.t c124)⟩
    refine sx_guardF rfl rfl rfl rfl rfl rfl ?_
    refine sx_guardF rfl rfl rfl rfl rfl rfl ?_
    refine sx_guardF rfl rfl rfl rfl rfl rfl ?_
    refine sp rfl (px_pick rfl rfl) ?_
    refine wl_nil (q_n (k132 _ _ ?_))
    refine sx_sub (Sub.c 0 rfl (.c 3 rfl (.c 4 rfl (.c 18 rfl (.c 24 rfl (.c 213 rfl .nil)))))) ?_
    refine sx_condF rfl ?_
    refine sx_skip ?_
    refine sx_end0 rfl ?_
    exact ⟨rfl, (cwl109.t c124)⟩
   refine sx_guardF rfl rfl rfl rfl rfl rfl ?_
   refine sx_guardF rfl rfl rfl rfl rfl rfl ?_
   refine sx_guardF rfl rfl rfl rfl rfl rfl ?_
   refine sp rfl (px_pick rfl rfl) ?_
   refine wl_nil (q_n (k126 _ _ ?_))
   refine sx_sub (Sub.c 0 rfl (.c 1 rfl (.c 3 rfl (.c 4 rfl (.c 18 rfl (.c 20 rfl (.c 24 rfl (.c 199 rfl .nil)))))))) ?_
   refine sx_condF rfl ?_
   refine sx_skip ?_
   refine q_n (k125 _ _ ?_)
   refine sx_seq fun K135 k135 => sx_region ?_
   refine mv rfl rfl (mv rfl rfl (sp rfl (px_lt rfl rfl) ?_))
   refine mv rfl rfl ?_
   refine sx_tmpP (t := 209) rfl (fun h455 => ?_) (fun h455 => ?_)
   ·
    refine sx_guardT rfl rfl rfl ?_
    refine mv rfl rfl ?_
    refine sx_guardT rfl rfl rfl ?_
    refine mv rfl rfl ?_
    refine sx_guardT rfl rfl rfl ?_
    refine sp rfl (px_lt rfl rfl) ?_
    refine sp rfl (px_pick rfl rfl) ?_
    refine wl_nil (q_n (k135 _ _ ?_))
    refine sx_sub (Sub.c 0 rfl (.c 3 rfl (.c 4 rfl (.c 18 rfl (.c 24 rfl (.c 213 rfl .nil)))))) ?_
    refine sx_condP rfl (fun h455x1 => ?_) (fun h455x1 => ?_)
    ·
     refine sx_region ?_
     refine mv rfl rfl (mv rfl rfl (mv rfl rfl (mv rfl rfl (mv rfl rfl ?_))))
     have f136 := f123.ext c124
     refine sx_call rfl rfl Try.call103 (c_symMergeE0 f136 (by omega) (by omega) (by assumption) (by assumption)) (fun v137 w137 p137 => ?_)
     obtain ⟨rfl, c137⟩ := p137
     have zw137 := c137.size
     refine wl_nil ?_
     refine sx_end0 rfl ?_
     exact ⟨rfl, ((cwl109.t c124).t c137)⟩
    refine sx_skip ?_
    refine sx_end0 rfl ?_
    exact ⟨rfl, (cwl109.t c124)⟩
   refine sx_guardF rfl rfl rfl rfl rfl rfl ?_
   refine sx_guardF rfl rfl rfl rfl rfl rfl ?_
   refine sx_guardF rfl rfl rfl rfl rfl rfl ?_
   refine sp rfl (px_pick rfl rfl) ?_
   refine wl_nil (q_n (k135 _ _ ?_))
   refine sx_sub (Sub.c 0 rfl (.c 3 rfl (.c 4 rfl (.c 18 rfl (.c 24 rfl (.c 213 rfl .nil)))))) ?_
   refine sx_condF rfl ?_
   refine sx_skip ?_
   refine sx_end0 rfl ?_
   exact ⟨rfl, (cwl109.t c124)⟩
  refine sx_skip ?_
  refine q_n (k121 _ _ ?_)
  refine sx_seq fun K138 k138 => ?_
  refine sx_seq fun K139 k139 => sx_region ?_
  refine mv rfl rfl (mv rfl rfl (sp rfl (px_lt rfl rfl) ?_))
  refine mv rfl rfl ?_
  refine sx_tmpP (t := 195) rfl (fun h452 => ?_) (fun h452 => ?_)
  ·
   refine sx_guardT rfl rfl rfl ?_
   refine mv rfl rfl ?_
   refine sx_guardT rfl rfl rfl ?_
   refine mv rfl rfl ?_
   refine sx_guardT rfl rfl rfl ?_
   refine sp rfl (px_lt rfl rfl) ?_
   refine sp rfl (px_pick rfl rfl) ?_
   refine wl_nil (q_n (k139 _ _ ?_))
   refine sx_sub (Sub.c 0 rfl (.c 1 rfl (.c 3 rfl (.c 4 rfl (.c 18 rfl (.c 20 rfl (.c 24 rfl (.c 199 rfl .nil)))))))) ?_
   refine sx_condP rfl (fun h452x1 => ?_) (fun h452x1 => ?_)
   ·
    refine sx_region ?_
    refine mv rfl rfl (mv rfl rfl (mv rfl rfl (mv rfl rfl (mv rfl rfl ?_))))
    have f140 := hvd.ext cwl109
    refine sx_call rfl rfl Try.call103 (c_symMergeE0 f140 (by omega) (by omega) (by assumption) (by assumption)) (fun v141 w141 p141 => ?_)
    obtain ⟨rfl, c141⟩ := p141
    have zw141 := c141.size
    refine wl_nil (q_n (k138 _ _ ?_))
    refine sx_seq fun K142 k142 => sx_region ?_
    refine mv rfl rfl (mv rfl rfl (sp rfl (px_lt rfl rfl) ?_))
    refine mv rfl rfl ?_
    refine sx_tmpP (t := 209) rfl (fun h455 => ?_) (fun h455 => ?_)
    ·
     refine sx_guardT rfl rfl rfl ?_
     refine mv rfl rfl ?_
     refine sx_guardT rfl rfl rfl ?_
     refine mv rfl rfl ?_
     refine sx_guardT rfl rfl rfl ?_
     refine sp rfl (px_lt rfl rfl) ?_
     refine sp rfl (px_pick rfl rfl) ?_
     refine wl_nil (q_n (k142 _ _ ?_))
     refine sx_sub (Sub.c 0 rfl (.c 3 rfl (.c 4 rfl (.c 18 rfl (.c 24 rfl (.c 213 rfl .nil)))))) ?_
     refine sx_condP rfl (fun h455x1 => ?_) (fun h455x1 => ?_)
     ·
      refine sx_region ?_
      refine mv rfl rfl (mv rfl rfl (mv rfl rfl (mv rfl rfl (mv rfl rfl ?_))))
      have f143 := f140.ext c141
      refine sx_call rfl rfl Try.call103 (c_symMergeE0 f143 (by omega) (by omega) (by assumption) (by assumption)) (fun v144 w144 p144 => ?_)
      obtain ⟨rfl, c144⟩ := p144
      have zw144 := c144.size
      refine wl_nil ?_
      refine sx_end0 rfl ?_
      exact ⟨rfl, ((cwl109.t c141).t c144)⟩
     refine sx_skip ?_
     refine sx_end0 rfl ?_
     exact ⟨rfl, (cwl109.t c141)⟩
    refine sx_guardF rfl rfl rfl rfl rfl rfl ?_
    refine sx_guardF rfl rfl rfl rfl rfl rfl ?_
    refine sx_guardF rfl rfl rfl rfl rfl rfl ?_
    refine sp rfl (px_pick rfl rfl) ?_
    refine wl_nil (q_n (k142 _ _ ?_))
    refine sx_sub (Sub.c 0 rfl (.c 3 rfl (.c 4 rfl (.c 18 rfl (.c 24 rfl (.c 213 rfl .nil)))))) ?_
    refine sx_condF rfl ?_
    refine sx_skip ?_
    refine sx_end0 rfl ?_
    exact ⟨rfl, (cwl109.t c141)⟩
   refine sx_skip ?_
   refine q_n (k138 _ _ ?_)
   refine sx_seq fun K145 k145 => sx_region ?_
   refine mv rfl rfl (mv rfl rfl (sp rfl (px_lt rfl rfl) ?_))
   refine mv rfl rfl ?_
   refine sx_tmpP (t := 209) rfl (fun h455 => ?_) (fun h455 => ?_)
   ·
    refine sx_guardT rfl rfl rfl ?_
    refine mv rfl rfl ?_
    refine sx_guardT rfl rfl rfl ?_
    refine mv rfl rfl ?_
    refine sx_guardT rfl rfl rfl ?_
    refine sp rfl (px_lt rfl rfl) ?_
    refine sp rfl (px_pick rfl rfl) ?_
    refine wl_nil (q_n (k145 _ _ ?_))
    refine sx_sub (Sub.c 0 rfl (.c 3 rfl (.c 4 rfl (.c 18 rfl (.c 24 rfl (.c 213 rfl .nil)))))) ?_
    refine sx_condP rfl (fun h455x1 => ?_) (fun h455x1 => ?_)
    ·
     refine sx_region ?_
     refine mv rfl rfl (mv rfl rfl (mv rfl rfl (mv rfl rfl (mv rfl rfl ?_))))
     have f146 := hvd.ext cwl109
     refine sx_call rfl rfl Try.call103 (c_symMergeE0 f146 (by omega) (by omega) (by assumption) (by assumption)) (fun v147 w147 p147 => ?_)
     obtain ⟨rfl, c147⟩ := p147
     have zw147 := c147.size
     refine wl_nil ?_
     refine sx_end0 rfl ?_
     exact ⟨rfl, (cwl109.t c147)⟩
    refine sx_skip ?_
    refine sx_end0 rfl ?_
    exact ⟨rfl, cwl109⟩
   refine sx_guardF rfl rfl rfl rfl rfl rfl ?_
   refine sx_guardF rfl rfl rfl rfl rfl rfl ?_
   refine sx_guardF rfl rfl rfl rfl rfl rfl ?_
   refine sp rfl (px_pick rfl rfl) ?_
   refine wl_nil (q_n (k145 _ _ ?_))
   refine sx_sub (Sub.c 0 rfl (.c 3 rfl (.c 4 rfl (.c 18 rfl (.c 24 rfl (.c 213 rfl .nil)))))) ?_
   refine sx_condF rfl ?_
   refine sx_skip ?_
   refine sx_end0 rfl ?_
   exact ⟨rfl, cwl109⟩
  refine sx_guardF rfl rfl rfl rfl rfl rfl ?_
  refine sx_guardF rfl rfl rfl rfl rfl rfl ?_
  refine sx_guardF rfl rfl rfl rfl rfl rfl ?_
  refine sp rfl (px_pick rfl rfl) ?_
  refine wl_nil (q_n (k139 _ _ ?_))
  refine sx_sub (Sub.c 0 rfl (.c 1 rfl (.c 3 rfl (.c 4 rfl (.c 18 rfl (.c 20 rfl (.c 24 rfl (.c 199 rfl .nil)))))))) ?_
  refine sx_condF rfl ?_
  refine sx_skip ?_
  refine q_n (k138 _ _ ?_)
  refine sx_seq fun K148 k148 => sx_region ?_
  refine mv rfl rfl (mv rfl rfl (sp rfl (px_lt rfl rfl) ?_))
  refine mv rfl rfl ?_
  refine sx_tmpP (t := 209) rfl (fun h455 => ?_) (fun h455 => ?_)
  ·
   refine sx_guardT rfl rfl rfl ?_
   refine mv rfl rfl ?_
   refine sx_guardT rfl rfl rfl ?_
   refine mv rfl rfl ?_
   refine sx_guardT rfl rfl rfl ?_
   refine sp rfl (px_lt rfl rfl) ?_
   refine sp rfl (px_pick rfl rfl) ?_
   refine wl_nil (q_n (k148 _ _ ?_))
   refine sx_sub (Sub.c 0 rfl (.c 3 rfl (.c 4 rfl (.c 18 rfl (.c 24 rfl (.c 213 rfl .nil)))))) ?_
   refine sx_condP rfl (fun h455x1 => ?_) (fun h455x1 => ?_)
   ·
    refine sx_region ?_
    refine mv rfl rfl (mv rfl rfl (mv rfl rfl (mv rfl rfl (mv rfl rfl ?_))))
    have f149 := hvd.ext cwl109
    refine sx_call rfl rfl Try.call103 (c_symMergeE0 f149 (by omega) (by omega) (by assumption) (by assumption)) (fun v150 w150 p150 => ?_)
    obtain ⟨rfl, c150⟩ := p150
    have zw150 := c150.size
    refine wl_nil ?_
    refine sx_end0 rfl ?_
    exact ⟨rfl, (cwl109.t c150)⟩
   refine sx_skip ?_
   refine sx_end0 rfl ?_
   exact ⟨rfl, cwl109⟩
  refine sx_guardF rfl rfl rfl rfl rfl rfl ?_
  refine sx_guardF rfl rfl rfl rfl rfl rfl ?_
  refine sx_guardF rfl rfl rfl rfl rfl rfl ?_
  refine sp rfl (px_pick rfl rfl) ?_
  refine wl_nil (q_n (k148 _ _ ?_))
  refine sx_sub (Sub.c 0 rfl (.c 3 rfl (.c 4 rfl (.c 18 rfl (.c 24 rfl (.c 213 rfl .nil)))))) ?_
  refine sx_condF rfl ?_
  refine sx_skip ?_
  refine sx_end0 rfl ?_
  exact ⟨rfl, cwl109⟩
 refine sx_guardF rfl rfl rfl rfl rfl rfl ?_
 refine sx_guardF rfl rfl rfl rfl rfl rfl ?_
 refine sx_guardF rfl rfl rfl rfl rfl rfl ?_
 refine sp rfl (px_pick rfl rfl) ?_
 refine wl_nil (q_n (k122 _ _ ?_))
 refine sx_sub (Sub.c 0 rfl (.c 1 rfl (.c 2 rfl (.c 3 rfl (.c 4 rfl (.c 18 rfl (.c 20 rfl (.c 24 rfl (.c 185 rfl .nil))))))))) ?_
 refine sx_condF rfl ?_
 refine sx_skip ?_
 refine q_n (k121 _ _ ?_)
 refine sx_seq fun K151 k151 => ?_
 refine sx_seq fun K152 k152 => sx_region ?_
 refine mv rfl rfl (mv rfl rfl (sp rfl (px_lt rfl rfl) ?_))
 refine mv rfl rfl ?_
 refine sx_tmpP (t := 195) rfl (fun h452 => ?_) (fun h452 => ?_)
 ·
  refine sx_guardT rfl rfl rfl ?_
  refine mv rfl rfl ?_
  refine sx_guardT rfl rfl rfl ?_
  refine mv rfl rfl ?_
  refine sx_guardT rfl rfl rfl ?_
  refine sp rfl (px_lt rfl rfl) ?_
  refine sp rfl (px_pick rfl rfl) ?_
  refine wl_nil (q_n (k152 _ _ ?_))
  refine sx_sub (Sub.c 0 rfl (.c 1 rfl (.c 3 rfl (.c 4 rfl (.c 18 rfl (.c 20 rfl (.c 24 rfl (.c 199 rfl .nil)))))))) ?_
  refine sx_condP rfl (fun h452x1 => ?_) (fun h452x1 => ?_)
  ·
   refine sx_region ?_
   refine mv rfl rfl (mv rfl rfl (mv rfl rfl (mv rfl rfl (mv rfl rfl ?_))))
   have f153 := hvd.ext cwl109
   refine sx_call rfl rfl Try.call103 (c_symMergeE0 f153 (by omega) (by omega) (by assumption) (by assumption)) (fun v154 w154 p154 => ?_)
   obtain ⟨rfl, c154⟩ := p154
   have zw154 := c154.size
   refine wl_nil (q_n (k151 _ _ ?_))
   refine sx_seq fun K155 k155 => sx_region ?_
   refine mv rfl rfl (mv rfl rfl (sp rfl (px_lt rfl rfl) ?_))
   refine mv rfl rfl ?_
   refine sx_tmpP (t := 209) rfl (fun h455 => ?_) (fun h455 => ?_)
   ·
    refine sx_guardT rfl rfl rfl ?_
    refine mv rfl rfl ?_
    refine sx_guardT rfl rfl rfl ?_
    refine mv rfl rfl ?_
    refine sx_guardT rfl rfl rfl ?_
    refine sp rfl (px_lt rfl rfl) ?_
    refine sp rfl (px_pick rfl rfl) ?_
    refine wl_nil (q_n (k155 _ _ ?_))
    refine sx_sub (Sub.c 0 rfl (.c 3 rfl (.c 4 rfl (.c 18 rfl (.c 24 rfl (.c 213 rfl .nil)))))) ?_
    refine sx_condP rfl (fun h455x1 => ?_) (fun h455x1 => ?_)
    ·
     refine sx_region ?_
     refine mv rfl rfl (mv rfl rfl (mv rfl rfl (mv rfl rfl (mv rfl rfl ?_))))
     have f156 := f153.ext c154
     refine sx_call rfl rfl Try.call103 (c_symMergeE0 f156 (by omega) (by omega) (by assumption) (by assumption)) (fun v157 w157 p157 => ?_)
     obtain ⟨rfl, c157⟩ := p157
     have zw157 := c157.size
     refine wl_nil ?_
     refine sx_end0 rfl ?_
     exact ⟨rfl, ((cwl109.t c154).t c157)⟩
    refine sx_skip ?_
    refine sx_end0 rfl ?_
    exact ⟨rfl, (cwl109.t c154)⟩
   refine sx_guardF rfl rfl rfl rfl rfl rfl ?_
   refine sx_guardF rfl rfl rfl rfl rfl rfl ?_
   refine sx_guardF rfl rfl rfl rfl rfl rfl ?_
   refine sp rfl (px_pick rfl rfl) ?_
   refine wl_nil (q_n (k155 _ _ ?_))
   refine sx_sub (Sub.c 0 rfl (.c 3 rfl (.c 4 rfl (.c 18 rfl (.c 24 rfl (.c 213 rfl .nil)))))) ?_
   refine sx_condF rfl ?_
   refine sx_skip ?_
   refine sx_end0 rfl ?_
   exact ⟨rfl, (cwl109.t c154)⟩
  refine sx_skip ?_
  refine q_n (k151 _ _ ?_)
  refine sx_seq fun K158 k158 => sx_region ?_
  refine mv rfl rfl (mv rfl rfl (sp rfl (px_lt rfl rfl) ?_))
  refine mv rfl rfl ?_
  refine sx_tmpP (t := 209) rfl (fun h455 => ?_) (fun h455 => ?_)
  ·
   refine sx_guardT rfl rfl rfl ?_
   refine mv rfl rfl ?_
   refine sx_guardT rfl rfl rfl ?_
   refine mv rfl rfl ?_
   refine sx_guardT rfl rfl rfl ?_
   refine sp rfl (px_lt rfl rfl) ?_
   refine sp rfl (px_pick rfl rfl) ?_
   refine wl_nil (q_n (k158 _ _ ?_))
   refine sx_sub (Sub.c 0 rfl (.c 3 rfl (.c 4 rfl (.c 18 rfl (.c 24 rfl (.c 213 rfl .nil)))))) ?_
   refine sx_condP rfl (fun h455x1 => ?_) (fun h455x1 => ?_)
   ·
    refine sx_region ?_
    refine mv rfl rfl (mv rfl rfl (mv rfl rfl (mv rfl rfl (mv rfl rfl ?_))))
    have f159 := hvd.ext cwl109
    refine sx_call rfl rfl Try.call103 (c_symMergeE0 f159 (by omega) (by omega) (by assumption) (by assumption)) (fun v160 w160 p160 => ?_)
    obtain ⟨rfl, c160⟩ := p160
    have zw160 := c160.size
    refine wl_nil ?_
    refine sx_end0 rfl ?_
    exact ⟨rfl, (cwl109.t c160)⟩
   refine sx_skip ?_
   refine sx_end0 rfl ?_
   exact ⟨rfl, cwl109⟩
  refine sx_guardF rfl rfl rfl rfl rfl rfl ?_
  refine sx_guardF rfl rfl rfl rfl rfl rfl ?_
  refine sx_guardF rfl rfl rfl rfl rfl rfl ?_
  refine sp rfl (px_pick rfl rfl) ?_
  refine wl_nil (q_n (k158 _ _ ?_))
  refine sx_sub (Sub.c 0 rfl (.c 3 rfl (.c 4 rfl (.c 18 rfl (.c 24 rfl (.c 213 rfl .nil)))))) ?_
  refine sx_condF rfl ?_
  refine sx_skip ?_
  refine sx_end0 rfl ?_
  exact ⟨rfl, cwl109⟩
 refine sx_guardF rfl rfl rfl rfl rfl rfl ?_
 refine sx_guardF rfl rfl rfl rfl rfl rfl ?_
 refine sx_guardF rfl rfl rfl rfl rfl rfl ?_
 refine sp rfl (px_pick rfl rfl) ?_
 refine wl_nil (q_n (k152 _ _ ?_))
 refine sx_sub (Sub.c 0 rfl (.c 1 rfl (.c 3 rfl (.c 4 rfl (.c 18 rfl (.c 20 rfl (.c 24 rfl (.c 199 rfl .nil)))))))) ?_
 refine sx_condF rfl ?_
 refine sx_skip ?_
 refine q_n (k151 _ _ ?_)
 refine sx_seq fun K161 k161 => sx_region ?_
 refine mv rfl rfl (mv rfl rfl (sp rfl (px_lt rfl rfl) ?_))
 refine mv rfl rfl ?_
 refine sx_tmpP (t := 209) rfl (fun h455 => ?_) (fun h455 => ?_)
 ·
  refine sx_guardT rfl rfl rfl ?_
  refine mv rfl rfl ?_
  refine sx_guardT rfl rfl rfl ?_
  refine mv rfl rfl ?_
  refine sx_guardT rfl rfl rfl ?_
  refine sp rfl (px_lt rfl rfl) ?_
  refine sp rfl (px_pick rfl rfl) ?_
  refine wl_nil (q_n (k161 _ _ ?_))
  refine sx_sub (Sub.c 0 rfl (.c 3 rfl (.c 4 rfl (.c 18 rfl (.c 24 rfl (.c 213 rfl .nil)))))) ?_
  refine sx_condP rfl (fun h455x1 => ?_) (fun h455x1 => ?_)
  ·
   refine sx_region ?_
   refine mv rfl rfl (mv rfl rfl (mv rfl rfl (mv rfl rfl (mv rfl rfl ?_))))
   have f162 := hvd.ext cwl109
   refine sx_call rfl rfl Try.call103 (c_symMergeE0 f162 (by omega) (by omega) (by assumption) (by assumption)) (fun v163 w163 p163 => ?_)
   obtain ⟨rfl, c163⟩ := p163
   have zw163 := c163.size
   refine wl_nil ?_
   refine sx_end0 rfl ?_
   exact ⟨rfl, (cwl109.t c163)⟩
  refine sx_skip ?_
  refine sx_end0 rfl ?_
  exact ⟨rfl, cwl109⟩
 refine sx_guardF rfl rfl rfl rfl rfl rfl ?_
 refine sx_guardF rfl rfl rfl rfl rfl rfl ?_
 refine sx_guardF rfl rfl rfl rfl rfl rfl ?_
 refine sp rfl (px_pick rfl rfl) ?_
 refine wl_nil (q_n (k161 _ _ ?_))
 refine sx_sub (Sub.c 0 rfl (.c 3 rfl (.c 4 rfl (.c 18 rfl (.c 24 rfl (.c 213 rfl .nil)))))) ?_
 refine sx_condF rfl ?_
 refine sx_skip ?_
 refine sx_end0 rfl ?_
 exact ⟨rfl, cwl109⟩

theorem c_symMergeE2 {w : World} {vd : Value} {lvd uvd tvd : Nat} {ix : List Nat} {ps : List Value} {r : Nat → Nat} {ia : Int} {im : Int} {ib : Int} (hvd : PtO w lvd uvd tvd vd 66 ix ps r) (ha : 0 ≤ ia ∧ ia < im ∧ im < ib ∧ ib ≤ (ix.length : Int) ∧ ix.length ≤ 1000) (hw : ib - ia ≤ 8) (hS : SortTo r ix ix.length) (hr : ∀ i, (dg (r i)).length ≤ 100) :
  Ret Try.prog 103 [vd, .int .i64 ia, .int .i64 im, .int .i64 ib, .func (.func 33) #[] #[]] w fun v w' => v = .tuple #[] ∧ Chg 0 0 w w' := by
 refine sx_enter Try.func103 rfl Try.ntmps103 (nbl rfl) ?_
 refine sx_seq fun K1 k1 => ?_
 refine sx_seq fun K2 k2 => sx_region ?_
 refine mv rfl rfl (mv rfl rfl (sp rfl (px_sub rfl rfl (by omega)) ?_))
 refine sp rfl (px_eq rfl rfl) ?_
 refine wl_nil (q_n (k2 _ _ ?_))
 refine sx_condP rfl (fun h382 => ?_) (fun h382 => ?_)
 ·
  refine sx_seq fun K3 k3 => sx_region ?_
  refine mv rfl rfl (av rfl rfl (wl_nil (q_n (k3 _ _ ?_))))
  refine sx_seq fun K4 k4 => sx_region ?_
  refine mv rfl rfl (av rfl rfl (wl_nil (q_n (k4 _ _ ?_))))
  refine sx_seq fun K5 k5 => ?_
  refine sx_block ?_
  refine sx_loop (fun mm aa w' => ∃ (j : Int), Agr 220 [(0, vd), (1, .int .i64 ia), (2, .int .i64 im), (3, .int .i64 ib), (4, .func (.func 33) #[] #[]), (10, .int .i64 im), (11, .int .i64 j)] aa ∧ Chg 0 0 w w' ∧ (mm = (j - im).toNat) ∧ (im ≤ j ∧ j ≤ ib)) (_) (fun a ha => ⟨ib, ha.sub (Sub.c 0 rfl (.c 1 rfl (.c 2 rfl (.c 3 rfl (.c 4 rfl (.c 10 rfl (.c 11 (look_int (t := 11) rfl (by first | omega | simp)) .nil))))))), Chg.refl _ _ _, rfl, by omega⟩) ?_
  rintro mm aa wl6 ⟨j, hAwl6, cwl6, hm, hj⟩
  refine (show cw Try.prog 220 _ _ _ wl6 from ?_) aa hAwl6
  clear hAwl6
  have zwl6 := cwl6.size
  refine sx_seq fun K7 k7 => ?_
  refine sx_seq fun K8 k8 => sx_region ?_
  refine mv rfl rfl (mv rfl rfl (sp rfl (px_lt rfl rfl) ?_))
  refine wl_nil (q_n (k8 _ _ ?_))
  refine sx_condP rfl (fun h388 => ?_) (fun h388 => ?_)
  ·
   refine sx_skip ?_
   refine q_n (k7 _ _ ?_)
   refine sx_block ?_
   refine sx_seq fun K9 k9 => sx_region ?_
   refine mv rfl rfl (mv rfl rfl (sp rfl (px_add rfl rfl (by omega)) ?_))
   refine sp rfl (px_convU Try.underlying3 Try.underlying108 rfl (by omega)) ?_
   refine sp rfl (px_shrU1 rfl rfl) ?_
   refine sp rfl (px_convI Try.underlying108 Try.underlying3 rfl (by omega)) ?_
   refine av rfl rfl (wl_nil (q_n (k9 _ _ ?_)))
   refine sx_sub (Sub.c 0 rfl (.c 1 rfl (.c 2 rfl (.c 3 rfl (.c 4 rfl (.c 10 rfl (.c 11 rfl (.c 12 rfl .nil)))))))) ?_
   refine sx_seq fun K10 k10 => ?_
   have f11 := hvd.ext cwl6
   refine dx_region (fun w' => Chg 0 0 wl6 w') (by kernel_rfl) (Chg.zero (Chg.drew _)) ?_
   have d12 := Chg.drew wl6
   have s12 : Chg 0 0 wl6 (World.drew wl6) := Chg.zero (Chg.drew _)
   have y12 : (World.drew wl6).heap.size = wl6.heap.size := rfl
   generalize World.drew wl6 = w12 at *
   have zw12 := d12.size
   refine dt 0 rfl rfl rfl rfl s12 (fun _ hS => px_move rfl) ?_
   refine dt 1 rfl rfl rfl rfl s12 (fun _ hS => px_move rfl) ?_
   refine dt 2 rfl rfl rfl rfl s12 (fun _ hS => px_move rfl) ?_
   refine dt 3 rfl rfl rfl rfl s12 (fun _ hS => px_indexK (j := ((im + j) / 2).toNat) rfl rfl (by omega) Try.underlying61 Try.sizeOf66 ((f11.sv).chg hS (by omega)) (by omega)) ?_
   refine dt 4 rfl rfl rfl rfl s12 (fun _ hS => px_load rfl (((f11.sv).chg hS (by omega)).loadA (pt_look (by first | omega | (simp only [List.length_set]; omega))) Try.isAgg66 Try.sizeOf66)) ?_
   refine dt 5 rfl rfl rfl rfl s12 (fun _ hS => px_move rfl) ?_
   refine dt 6 rfl rfl rfl rfl s12 (fun _ hS => px_move rfl) ?_
   refine dt 7 rfl rfl rfl rfl s12 (fun _ hS => px_indexK (j := ia.toNat) rfl rfl (by omega) Try.underlying61 Try.sizeOf66 ((f11.sv).chg hS (by omega)) (by omega)) ?_
   refine dt 8 rfl rfl rfl rfl s12 (fun _ hS => px_load rfl (((f11.sv).chg hS (by omega)).loadA (pt_look (by first | omega | (simp only [List.length_set]; omega))) Try.isAgg66 Try.sizeOf66)) ?_
   refine dx_eff 9 rfl (by kernel_rfl) ?_
   have f13 := (f11.rest (j := ((im + j) / 2).toNat) (by first | omega | (simp only [List.length_set]; omega))).ext d12
   have f14 := (f11.rest (j := ia.toNat) (by first | omega | (simp only [List.length_set]; omega))).ext d12
   refine sx_callV rfl rfl rfl Try.call33 (c_before f13 f14 (⟨hr _, hr _⟩)) (fun v15 w15 p15 => ?_)
   obtain ⟨rfl, c15⟩ := p15
   have zw15 := c15.size
   have s16 : Chg 0 0 wl6 w15 := (d12.t c15)
   refine wl_nil ?_
   refine dx_next s16 ?_
   refine dt 10 rfl rfl rfl rfl s16 (fun _ hS => px_lt rfl rfl) ?_
   refine dx_done (by kernel_rfl) ?_
   refine q_n (k10 _ _ ?_)
   refine sx_sub (Sub.c 0 rfl (.c 1 rfl (.c 2 rfl (.c 3 rfl (.c 4 rfl (.c 10 rfl (.c 11 rfl (.c 12 rfl (.c 50 rfl .nil))))))))) ?_
   have h390 : ¬ ((orC (r (ix.getD (((im + j) / 2).toNat) 0)) (r (ix.getD ia.toNat 0)) (((ix.getD (((im + j) / 2).toNat) 0) : Nat) : Int) (((ix.getD ia.toNat 0) : Nat) : Int) : Int) < 0) := fun hb => bef_asymm (hS _ _ (by omega) (by omega)) (orC_neg.1 hb)
   refine sx_condPF rfl h390 ?_
   refine sx_region ?_
   refine mv rfl rfl (av rfl rfl (wl_nil ?_))
   exact q_bn (fun a ha => ⟨_, by omega, ((im + j) / 2), ha.sub (Sub.c 0 rfl (.c 1 rfl (.c 2 rfl (.c 3 rfl (.c 4 rfl (.c 10 rfl (.c 11 (look_int (t := 11) rfl (by first | omega | simp)) .nil))))))), ((cwl6.t d12).t c15), rfl, by omega⟩)
  refine sx_exit ?_
  refine q_e (q_e (q_bx (q_n (k5 _ _ ?_))))
  refine sx_seq fun K17 k17 => ?_
  refine sx_seq fun K18 k18 => sx_region ?_
  refine mv rfl rfl (av rfl rfl (wl_nil (q_n (k18 _ _ ?_))))
  refine sx_block ?_
  refine sx_loop (fun mm aa w' => Agr 220 [(0, vd), (1, .int .i64 ia), (2, .int .i64 im), (3, .int .i64 ib), (4, .func (.func 33) #[] #[]), (10, .int .i64 im), (13, .int .i64 ia)] aa ∧ Chg 0 0 wl6 w' ∧ (mm = 0)) (_) (fun a ha => ⟨ha.sub (Sub.c 0 rfl (.c 1 rfl (.c 2 rfl (.c 3 rfl (.c 4 rfl (.c 10 rfl (.c 13 rfl .nil))))))), Chg.refl _ _ _, rfl⟩) ?_
  rintro mm aa wl19 ⟨hAwl19, cwl19, hm⟩
  refine (show cw Try.prog 220 _ _ _ wl19 from ?_) aa hAwl19
  clear hAwl19
  have zwl19 := cwl19.size
  refine sx_seq fun K20 k20 => ?_
  refine sx_seq fun K21 k21 => sx_region ?_
  refine mv rfl rfl (mv rfl rfl (sp rfl (px_sub rfl rfl (by omega)) ?_))
  refine sp rfl (px_lt rfl rfl) ?_
  refine wl_nil (q_n (k21 _ _ ?_))
  have h397 : ¬ ((ia : Int) < im - 1) := by omega
  refine sx_condPF rfl h397 ?_
  refine sx_exit ?_
  refine q_e (q_e (q_bx (q_n (k17 _ _ ?_))))
  refine sx_retc ?_
  refine q_r (sx_ret0 rfl ?_)
  exact ⟨rfl, (cwl6.t cwl19)⟩
 refine sx_skip ?_
 refine q_n (k1 _ _ ?_)
 refine sx_seq fun K22 k22 => ?_
 refine sx_seq fun K23 k23 => sx_region ?_
 refine mv rfl rfl (mv rfl rfl (sp rfl (px_sub rfl rfl (by omega)) ?_))
 refine sp rfl (px_eq rfl rfl) ?_
 refine wl_nil (q_n (k23 _ _ ?_))
 refine sx_condP rfl (fun h406 => ?_) (fun h406 => ?_)
 ·
  refine sx_seq fun K24 k24 => sx_region ?_
  refine mv rfl rfl (av rfl rfl (wl_nil (q_n (k24 _ _ ?_))))
  refine sx_sub (Sub.c 0 rfl (.c 1 rfl (.c 2 rfl (.c 3 rfl (.c 4 rfl (.c 14 rfl .nil)))))) ?_
  refine sx_seq fun K25 k25 => sx_region ?_
  refine mv rfl rfl (av rfl rfl (wl_nil (q_n (k25 _ _ ?_))))
  refine sx_seq fun K26 k26 => ?_
  refine sx_block ?_
  refine sx_loop (fun mm aa w' => ∃ (i : Int), Agr 220 [(0, vd), (1, .int .i64 ia), (2, .int .i64 im), (3, .int .i64 ib), (4, .func (.func 33) #[] #[]), (14, .int .i64 i), (15, .int .i64 im)] aa ∧ Chg 0 0 w w' ∧ (mm = (im - i).toNat) ∧ (ia ≤ i ∧ i ≤ im)) (_) (fun a ha => ⟨ia, ha.sub (Sub.c 0 rfl (.c 1 rfl (.c 2 rfl (.c 3 rfl (.c 4 rfl (.c 14 (look_int (t := 14) rfl (by first | omega | simp)) (.c 15 rfl .nil))))))), Chg.refl _ _ _, rfl, by omega⟩) ?_
  rintro mm aa wl27 ⟨i, hAwl27, cwl27, hm, hi⟩
  refine (show cw Try.prog 220 _ _ _ wl27 from ?_) aa hAwl27
  clear hAwl27
  have zwl27 := cwl27.size
  refine sx_seq fun K28 k28 => ?_
  refine sx_seq fun K29 k29 => sx_region ?_
  refine mv rfl rfl (mv rfl rfl (sp rfl (px_lt rfl rfl) ?_))
  refine wl_nil (q_n (k29 _ _ ?_))
  refine sx_condP rfl (fun h412 => ?_) (fun h412 => ?_)
  ·
   refine sx_skip ?_
   refine q_n (k28 _ _ ?_)
   refine sx_block ?_
   refine sx_seq fun K30 k30 => sx_region ?_
   refine mv rfl rfl (mv rfl rfl (sp rfl (px_add rfl rfl (by omega)) ?_))
   refine sp rfl (px_convU Try.underlying3 Try.underlying108 rfl (by omega)) ?_
   refine sp rfl (px_shrU1 rfl rfl) ?_
   refine sp rfl (px_convI Try.underlying108 Try.underlying3 rfl (by omega)) ?_
   refine av rfl rfl (wl_nil (q_n (k30 _ _ ?_)))
   refine sx_sub (Sub.c 0 rfl (.c 1 rfl (.c 2 rfl (.c 3 rfl (.c 4 rfl (.c 14 rfl (.c 15 rfl (.c 16 rfl .nil)))))))) ?_
   refine sx_seq fun K31 k31 => ?_
   have f32 := hvd.ext cwl27
   refine dx_region (fun w' => Chg 0 0 wl27 w') (by kernel_rfl) (Chg.zero (Chg.drew _)) ?_
   have d33 := Chg.drew wl27
   have s33 : Chg 0 0 wl27 (World.drew wl27) := Chg.zero (Chg.drew _)
   have y33 : (World.drew wl27).heap.size = wl27.heap.size := rfl
   generalize World.drew wl27 = w33 at *
   have zw33 := d33.size
   refine dt 0 rfl rfl rfl rfl s33 (fun _ hS => px_move rfl) ?_
   refine dt 1 rfl rfl rfl rfl s33 (fun _ hS => px_move rfl) ?_
   refine dt 2 rfl rfl rfl rfl s33 (fun _ hS => px_move rfl) ?_
   refine dt 3 rfl rfl rfl rfl s33 (fun _ hS => px_indexK (j := im.toNat) rfl rfl (by omega) Try.underlying61 Try.sizeOf66 ((f32.sv).chg hS (by omega)) (by omega)) ?_
   refine dt 4 rfl rfl rfl rfl s33 (fun _ hS => px_load rfl (((f32.sv).chg hS (by omega)).loadA (pt_look (by first | omega | (simp only [List.length_set]; omega))) Try.isAgg66 Try.sizeOf66)) ?_
   refine dt 5 rfl rfl rfl rfl s33 (fun _ hS => px_move rfl) ?_
   refine dt 6 rfl rfl rfl rfl s33 (fun _ hS => px_move rfl) ?_
   refine dt 7 rfl rfl rfl rfl s33 (fun _ hS => px_indexK (j := ((i + im) / 2).toNat) rfl rfl (by omega) Try.underlying61 Try.sizeOf66 ((f32.sv).chg hS (by omega)) (by omega)) ?_
   refine dt 8 rfl rfl rfl rfl s33 (fun _ hS => px_load rfl (((f32.sv).chg hS (by omega)).loadA (pt_look (by first | omega | (simp only [List.length_set]; omega))) Try.isAgg66 Try.sizeOf66)) ?_
   refine dx_eff 9 rfl (by kernel_rfl) ?_
   have f34 := (f32.rest (j := im.toNat) (by first | omega | (simp only [List.length_set]; omega))).ext d33
   have f35 := (f32.rest (j := ((i + im) / 2).toNat) (by first | omega | (simp only [List.length_set]; omega))).ext d33
   refine sx_callV rfl rfl rfl Try.call33 (c_before f34 f35 (⟨hr _, hr _⟩)) (fun v36 w36 p36 => ?_)
   obtain ⟨rfl, c36⟩ := p36
   have zw36 := c36.size
   have s37 : Chg 0 0 wl27 w36 := (d33.t c36)
   refine wl_nil ?_
   refine dx_next s37 ?_
   refine dt 10 rfl rfl rfl rfl s37 (fun _ hS => px_lt rfl rfl) ?_
   refine dt 11 rfl rfl rfl rfl s37 (fun _ hS => px_notP rfl) ?_
   refine dx_done (by kernel_rfl) ?_
   refine q_n (k31 _ _ ?_)
   refine sx_sub (Sub.c 0 rfl (.c 1 rfl (.c 2 rfl (.c 3 rfl (.c 4 rfl (.c 14 rfl (.c 15 rfl (.c 16 rfl (.c 103 rfl .nil))))))))) ?_
   have h414 : ¬ ((orC (r (ix.getD im.toNat 0)) (r (ix.getD (((i + im) / 2).toNat) 0)) (((ix.getD im.toNat 0) : Nat) : Int) (((ix.getD (((i + im) / 2).toNat) 0) : Nat) : Int) : Int) < 0) := fun hb => bef_asymm (hS _ _ (by omega) (by omega)) (orC_neg.1 hb)
   refine sx_condPT rfl h414 ?_
   refine sx_region ?_
   refine mv rfl rfl (sp rfl (px_add rfl rfl (by omega)) ?_)
   refine av rfl rfl (wl_nil ?_)
   exact q_bn (fun a ha => ⟨_, by omega, (((i + im) / 2) + 1), ha.sub (Sub.c 0 rfl (.c 1 rfl (.c 2 rfl (.c 3 rfl (.c 4 rfl (.c 14 (look_int (t := 14) rfl (by first | omega | simp)) (.c 15 rfl .nil))))))), ((cwl27.t d33).t c36), rfl, by omega⟩)
  refine sx_exit ?_
  refine q_e (q_e (q_bx (q_n (k26 _ _ ?_))))
  refine sx_seq fun K38 k38 => ?_
  refine sx_seq fun K39 k39 => sx_region ?_
  refine mv rfl rfl (av rfl rfl (wl_nil (q_n (k39 _ _ ?_))))
  refine sx_block ?_
  refine sx_loop (fun mm aa w' => Agr 220 [(0, vd), (1, .int .i64 ia), (2, .int .i64 im), (3, .int .i64 ib), (4, .func (.func 33) #[] #[]), (14, .int .i64 i), (17, .int .i64 im)] aa ∧ Chg 0 0 wl27 w' ∧ (mm = 0)) (_) (fun a ha => ⟨ha.sub (Sub.c 0 rfl (.c 1 rfl (.c 2 rfl (.c 3 rfl (.c 4 rfl (.c 14 rfl (.c 17 rfl .nil))))))), Chg.refl _ _ _, rfl⟩) ?_
  rintro mm aa wl40 ⟨hAwl40, cwl40, hm⟩
  refine (show cw Try.prog 220 _ _ _ wl40 from ?_) aa hAwl40
  clear hAwl40
  have zwl40 := cwl40.size
  refine sx_seq fun K41 k41 => ?_
  refine sx_seq fun K42 k42 => sx_region ?_
  refine mv rfl rfl (mv rfl rfl (sp rfl (px_gt rfl rfl) ?_))
  refine wl_nil (q_n (k42 _ _ ?_))
  have h421 : ¬ ((i : Int) < im) := by omega
  refine sx_condPF rfl h421 ?_
  refine sx_exit ?_
  refine q_e (q_e (q_bx (q_n (k38 _ _ ?_))))
  refine sx_retc ?_
  refine q_r (sx_ret0 rfl ?_)
  exact ⟨rfl, (cwl27.t cwl40)⟩
 refine sx_skip ?_
 refine q_n (k22 _ _ ?_)
 refine sx_seq fun K43 k43 => sx_region ?_
 refine mv rfl rfl (mv rfl rfl (sp rfl (px_add rfl rfl (by omega)) ?_))
 refine sp rfl (px_convU Try.underlying3 Try.underlying108 rfl (by omega)) ?_
 refine sp rfl (px_shrU1 rfl rfl) ?_
 refine sp rfl (px_convI Try.underlying108 Try.underlying3 rfl (by omega)) ?_
 refine av rfl rfl (wl_nil (q_n (k43 _ _ ?_)))
 refine sx_sub (Sub.c 0 rfl (.c 1 rfl (.c 2 rfl (.c 3 rfl (.c 4 rfl (.c 18 rfl .nil)))))) ?_
 refine sx_seq fun K44 k44 => sx_region ?_
 refine mv rfl rfl (mv rfl rfl (sp rfl (px_add rfl rfl (by omega)) ?_))
 refine av rfl rfl (wl_nil (q_n (k44 _ _ ?_)))
 refine sx_seq fun K45 k45 => sx_region ?_
 refine av rfl rfl (av rfl rfl (wl_nil (q_n (k45 _ _ ?_))))
 refine sx_seq fun K46 k46 => ?_
 refine sx_seq fun K47 k47 => sx_region ?_
 refine mv rfl rfl (mv rfl rfl (sp rfl (px_gt rfl rfl) ?_))
 refine wl_nil (q_n (k47 _ _ ?_))
 refine sx_sub (Sub.c 0 rfl (.c 1 rfl (.c 2 rfl (.c 3 rfl (.c 4 rfl (.c 18 rfl (.c 19 rfl (.c 20 rfl (.c 21 rfl (.c 140 rfl .nil)))))))))) ?_
 refine sx_condP rfl (fun h430 => ?_) (fun h430 => ?_)
 ·
  refine sx_seq fun K48 k48 => sx_region ?_
  refine mv rfl rfl (mv rfl rfl (sp rfl (px_sub rfl rfl (by omega)) ?_))
  refine av rfl rfl (wl_nil (q_n (k48 _ _ ?_)))
  refine sx_region ?_
  refine mv rfl rfl (av rfl rfl (wl_nil (q_n (k46 _ _ ?_))))
  refine sx_seq fun K49 k49 => sx_region ?_
  refine mv rfl rfl (sp rfl (px_sub rfl rfl (by omega)) ?_)
  refine av rfl rfl (wl_nil (q_n (k49 _ _ ?_)))
  refine sx_sub (Sub.c 0 rfl (.c 1 rfl (.c 2 rfl (.c 3 rfl (.c 4 rfl (.c 18 rfl (.c 19 rfl (.c 20 rfl (.c 21 rfl (.c 22 rfl .nil)))))))))) ?_
  refine sx_seq fun K50 k50 => ?_
  refine sx_block ?_
  refine sx_loop (fun mm aa w' => ∃ (s : Int), Agr 220 [(0, vd), (1, .int .i64 ia), (2, .int .i64 im), (3, .int .i64 ib), (4, .func (.func 33) #[] #[]), (18, .int .i64 ((ia + ib) / 2)), (19, .int .i64 (((ia + ib) / 2) + im)), (20, .int .i64 s), (21, .int .i64 ((ia + ib) / 2)), (22, .int .i64 ((((ia + ib) / 2) + im) - 1))] aa ∧ Chg 0 0 w w' ∧ (mm = (((ia + ib) / 2) - s).toNat) ∧ ((((ia + ib) / 2) + im) - ib ≤ s ∧ s ≤ (ia + ib) / 2)) (_) (fun a ha => ⟨((((ia + ib) / 2) + im) - ib), ha.sub (Sub.c 0 rfl (.c 1 rfl (.c 2 rfl (.c 3 rfl (.c 4 rfl (.c 18 rfl (.c 19 rfl (.c 20 (look_int (t := 20) rfl (by first | omega | simp)) (.c 21 rfl (.c 22 rfl .nil)))))))))), Chg.refl _ _ _, rfl, by omega⟩) ?_
  rintro mm aa wl51 ⟨s, hAwl51, cwl51, hm, hs⟩
  refine (show cw Try.prog 220 _ _ _ wl51 from ?_) aa hAwl51
  clear hAwl51
  have zwl51 := cwl51.size
  refine sx_seq fun K52 k52 => ?_
  refine sx_seq fun K53 k53 => sx_region ?_
  refine mv rfl rfl (mv rfl rfl (sp rfl (px_lt rfl rfl) ?_))
  refine wl_nil (q_n (k53 _ _ ?_))
  refine sx_condP rfl (fun h439 => ?_) (fun h439 => ?_)
  ·
   refine sx_skip ?_
   refine q_n (k52 _ _ ?_)
   refine sx_block ?_
   refine sx_seq fun K54 k54 => sx_region ?_
   refine mv rfl rfl (mv rfl rfl (sp rfl (px_add rfl rfl (by omega)) ?_))
   refine sp rfl (px_convU Try.underlying3 Try.underlying108 rfl (by omega)) ?_
   refine sp rfl (px_shrU1 rfl rfl) ?_
   refine sp rfl (px_convI Try.underlying108 Try.underlying3 rfl (by omega)) ?_
   refine av rfl rfl (wl_nil (q_n (k54 _ _ ?_)))
   refine sx_sub (Sub.c 0 rfl (.c 1 rfl (.c 2 rfl (.c 3 rfl (.c 4 rfl (.c 18 rfl (.c 19 rfl (.c 20 rfl (.c 21 rfl (.c 22 rfl (.c 23 rfl .nil))))))))))) ?_
   refine sx_seq fun K55 k55 => ?_
   have f56 := hvd.ext cwl51
   refine dx_region (fun w' => Chg 0 0 wl51 w') (by kernel_rfl) (Chg.zero (Chg.drew _)) ?_
   have d57 := Chg.drew wl51
   have s57 : Chg 0 0 wl51 (World.drew wl51) := Chg.zero (Chg.drew _)
   have y57 : (World.drew wl51).heap.size = wl51.heap.size := rfl
   generalize World.drew wl51 = w57 at *
   have zw57 := d57.size
   refine dt 0 rfl rfl rfl rfl s57 (fun _ hS => px_move rfl) ?_
   refine dt 1 rfl rfl rfl rfl s57 (fun _ hS => px_move rfl) ?_
   refine dt 2 rfl rfl rfl rfl s57 (fun _ hS => px_move rfl) ?_
   refine dt 3 rfl rfl rfl rfl s57 (fun _ hS => px_move rfl) ?_
   refine dt 4 rfl rfl rfl rfl s57 (fun _ hS => px_sub rfl rfl (by omega)) ?_
   refine dt 5 rfl rfl rfl rfl s57 (fun _ hS => px_indexK (j := (((((ia + ib) / 2) + im) - 1).toNat - ((s + ((ia + ib) / 2)) / 2).toNat)) rfl rfl (by omega) Try.underlying61 Try.sizeOf66 ((f56.sv).chg hS (by omega)) (by omega)) ?_
   refine dt 6 rfl rfl rfl rfl s57 (fun _ hS => px_load rfl (((f56.sv).chg hS (by omega)).loadA (pt_look (by first | omega | (simp only [List.length_set]; omega))) Try.isAgg66 Try.sizeOf66)) ?_
   refine dt 7 rfl rfl rfl rfl s57 (fun _ hS => px_move rfl) ?_
   refine dt 8 rfl rfl rfl rfl s57 (fun _ hS => px_move rfl) ?_
   refine dt 9 rfl rfl rfl rfl s57 (fun _ hS => px_indexK (j := ((s + ((ia + ib) / 2)) / 2).toNat) rfl rfl (by omega) Try.underlying61 Try.sizeOf66 ((f56.sv).chg hS (by omega)) (by omega)) ?_
   refine dt 10 rfl rfl rfl rfl s57 (fun _ hS => px_load rfl (((f56.sv).chg hS (by omega)).loadA (pt_look (by first | omega | (simp only [List.length_set]; omega))) Try.isAgg66 Try.sizeOf66)) ?_
   refine dx_eff 11 rfl (by kernel_rfl) ?_
   have f58 := (f56.rest (j := ((((ia + ib) / 2) + im) - 1).toNat - ((s + ((ia + ib) / 2)) / 2).toNat) (by first | omega | (simp only [List.length_set]; omega))).ext d57
   have f59 := (f56.rest (j := ((s + ((ia + ib) / 2)) / 2).toNat) (by first | omega | (simp only [List.length_set]; omega))).ext d57
   refine sx_callV rfl rfl rfl Try.call33 (c_before f58 f59 (⟨hr _, hr _⟩)) (fun v60 w60 p60 => ?_)
   obtain ⟨rfl, c60⟩ := p60
   have zw60 := c60.size
   have s61 : Chg 0 0 wl51 w60 := (d57.t c60)
   refine wl_nil ?_
   refine dx_next s61 ?_
   refine dt 12 rfl rfl rfl rfl s61 (fun _ hS => px_lt rfl rfl) ?_
   refine dt 13 rfl rfl rfl rfl s61 (fun _ hS => px_notP rfl) ?_
   refine dx_done (by kernel_rfl) ?_
   refine q_n (k55 _ _ ?_)
   refine sx_sub (Sub.c 0 rfl (.c 1 rfl (.c 2 rfl (.c 3 rfl (.c 4 rfl (.c 18 rfl (.c 19 rfl (.c 20 rfl (.c 21 rfl (.c 22 rfl (.c 23 rfl (.c 171 rfl .nil)))))))))))) ?_
   have h441 : ¬ ((orC (r (ix.getD (((((ia + ib) / 2) + im) - 1).toNat - ((s + ((ia + ib) / 2)) / 2).toNat) 0)) (r (ix.getD (((s + ((ia + ib) / 2)) / 2).toNat) 0)) (((ix.getD (((((ia + ib) / 2) + im) - 1).toNat - ((s + ((ia + ib) / 2)) / 2).toNat) 0) : Nat) : Int) (((ix.getD (((s + ((ia + ib) / 2)) / 2).toNat) 0) : Nat) : Int) : Int) < 0) := fun hb => bef_asymm (hS _ _ (by omega) (by omega)) (orC_neg.1 hb)
   refine sx_condPT rfl h441 ?_
   refine sx_region ?_
   refine mv rfl rfl (sp rfl (px_add rfl rfl (by omega)) ?_)
   refine av rfl rfl (wl_nil ?_)
   exact q_bn (fun a ha => ⟨_, by omega, (((s + ((ia + ib) / 2)) / 2) + 1), ha.sub (Sub.c 0 rfl (.c 1 rfl (.c 2 rfl (.c 3 rfl (.c 4 rfl (.c 18 rfl (.c 19 rfl (.c 20 (look_int (t := 20) rfl (by first | omega | simp)) (.c 21 rfl (.c 22 rfl .nil)))))))))), ((cwl51.t d57).t c60), rfl, by omega⟩)
  refine sx_exit ?_
  refine q_e (q_e (q_bx (q_n (k50 _ _ ?_))))
  refine sx_seq fun K62 k62 => sx_region ?_
  refine mv rfl rfl (mv rfl rfl (sp rfl (px_sub rfl rfl (by omega)) ?_))
  refine av rfl rfl (wl_nil (q_n (k62 _ _ ?_)))
  refine sx_sub (Sub.c 0 rfl (.c 1 rfl (.c 2 rfl (.c 3 rfl (.c 4 rfl (.c 18 rfl (.c 20 rfl (.c 24 rfl .nil)))))))) ?_
  refine sx_seq fun K63 k63 => ?_
  refine sx_seq fun K64 k64 => sx_region ?_
  refine mv rfl rfl (mv rfl rfl (sp rfl (px_lt rfl rfl) ?_))
  refine mv rfl rfl ?_
  refine sx_tmpP (t := 181) rfl (fun h449 => ?_) (fun h449 => ?_)
  ·
   refine sx_guardT rfl rfl rfl ?_
   refine mv rfl rfl ?_
   refine sx_guardT rfl rfl rfl ?_
   refine mv rfl rfl ?_
   refine sx_guardT rfl rfl rfl ?_
   refine sp rfl (px_lt rfl rfl) ?_
   refine sp rfl (px_pick rfl rfl) ?_
   refine wl_nil (q_n (k64 _ _ ?_))
   refine sx_sub (Sub.c 0 rfl (.c 1 rfl (.c 2 rfl (.c 3 rfl (.c 4 rfl (.c 18 rfl (.c 20 rfl (.c 24 rfl (.c 185 rfl .nil))))))))) ?_
   refine sx_condP rfl (fun h449x1 => ?_) (fun h449x1 => ?_)
   ·
    refine sx_region ?_
    refine mv rfl rfl (mv rfl rfl (mv rfl rfl (mv rfl rfl (mv rfl rfl ?_))))
    have f65 := hvd.ext cwl51
    refine sx_call rfl rfl Try.call104 (c_rotNone f65 (by omega)) (fun v66 w66 p66 => ?_)
    obtain ⟨rfl, c66⟩ := p66
    have zw66 := c66.size
    refine wl_nil (q_n (k63 _ _ ?_))
    refine sx_sub (Sub.c 0 rfl (.c 1 rfl (.c 3 rfl (.c 4 rfl (.c 18 rfl (.c 20 rfl (.c 24 rfl .nil))))))) ?_
    refine sx_seq fun K67 k67 => ?_
    refine sx_seq fun K68 k68 => sx_region ?_
    refine mv rfl rfl (mv rfl rfl (sp rfl (px_lt rfl rfl) ?_))
    refine mv rfl rfl ?_
    refine sx_tmpP (t := 195) rfl (fun h452 => ?_) (fun h452 => ?_)
    ·
     refine sx_guardT rfl rfl rfl ?_
     refine mv rfl rfl ?_
     refine sx_guardT rfl rfl rfl ?_
     refine mv rfl rfl ?_
     refine sx_guardT rfl rfl rfl ?_
     refine sp rfl (px_lt rfl rfl) ?_
     refine sp rfl (px_pick rfl rfl) ?_
     refine wl_nil (q_n (k68 _ _ ?_))
     refine sx_sub (Sub.c 0 rfl (.c 1 rfl (.c 3 rfl (.c 4 rfl (.c 18 rfl (.c 20 rfl (.c 24 rfl (.c 199 rfl .nil)))))))) ?_
     refine sx_condP rfl (fun h452x1 => ?_) (fun h452x1 => ?_)
     ·
      refine sx_region ?_
      refine mv rfl rfl (mv rfl rfl (mv rfl rfl (mv rfl rfl (mv rfl rfl ?_))))
      have f69 := f65.ext c66
      refine sx_call rfl rfl Try.call103 (c_symMergeE1 f69 (by omega) (by omega) (by assumption) (by assumption)) (fun v70 w70 p70 => ?_)
      obtain ⟨rfl, c70⟩ := p70
      have zw70 := c70.size
      refine wl_nil (q_n (k67 _ _ ?_))
      refine sx_seq fun K71 k71 => sx_region ?_
      refine mv rfl rfl (mv rfl rfl (sp rfl (px_lt rfl rfl) ?_))
      refine mv rfl rfl ?_
      refine sx_tmpP (t := 209) rfl (fun h455 => ?_) (fun h455 => ?_)
      ·
       refine sx_guardT rfl rfl rfl ?_
       refine mv rfl rfl ?_
       refine sx_guardT rfl rfl rfl ?_
       refine mv rfl rfl ?_
       refine sx_guardT rfl rfl rfl ?_
       refine sp rfl (px_lt rfl rfl) ?_
       refine sp rfl (px_pick rfl rfl) ?_
       refine wl_nil (q_n (k71 _ _ ?_))
       refine sx_sub (Sub.c 0 rfl (.c 3 rfl (.c 4 rfl (.c 18 rfl (.c 24 rfl (.c 213 rfl .nil)))))) ?_
       refine sx_condP rfl (fun h455x1 => ?_) (fun h455x1 => ?_)
       ·
        refine sx_region ?_
        refine mv rfl rfl (mv rfl rfl (mv rfl rfl (mv rfl rfl (mv rfl rfl ?_))))
        have f72 := f69.ext c70
        refine sx_call rfl rfl Try.call103 (c_symMergeE1 f72 (by omega) (by omega) (by assumption) (by assumption)) (fun v73 w73 p73 => ?_)
        obtain ⟨rfl, c73⟩ := p73
        have zw73 := c73.size
        refine wl_nil ?_
        refine sx_end0 rfl ?_
        exact ⟨rfl, (((cwl51.t c66).t c70).t c73)⟩
       refine sx_skip ?_
       refine sx_end0 rfl ?_
       exact ⟨rfl, ((cwl51.t c66).t c70)⟩
      refine sx_guardF rfl rfl rfl rfl rfl rfl ?_
      refine sx_guardF rfl rfl rfl rfl rfl rfl ?_
      refine sx_guardF rfl rfl rfl rfl rfl rfl ?_
      refine sp rfl (px_pick rfl rfl) ?_
      refine wl_nil (q_n (k71 _ _ ?_))
      refine sx_sub (Sub.c 0 rfl (.c 3 rfl (.c 4 rfl (.c 18 rfl (.c 24 rfl (.c 213 rfl .nil)))))) ?_
      refine sx_condF rfl ?_
      refine sx_skip ?_
      refine sx_end0 rfl ?_
      exact ⟨rfl, ((cwl51.t c66).t c70)⟩
     refine sx_skip ?_
     refine q_n (k67 _ _ ?_)
     refine sx_seq fun K74 k74 => sx_region ?_
     refine mv rfl rfl (mv rfl rfl (sp rfl (px_lt rfl rfl) ?_))
     refine mv rfl rfl ?_
     refine sx_tmpP (t := 209) rfl (fun h455 => ?_) (fun h455 => ?_)
     ·
      refine sx_guardT rfl rfl rfl ?_
      refine mv rfl rfl ?_
      refine sx_guardT rfl rfl rfl ?_
      refine mv rfl rfl ?_
      refine sx_guardT rfl rfl rfl ?_
      refine sp rfl (px_lt rfl rfl) ?_
      refine sp rfl (px_pick rfl rfl) ?_
      refine wl_nil (q_n (k74 _ _ ?_))
      refine sx_sub (Sub.c 0 rfl (.c 3 rfl (.c 4 rfl (.c 18 rfl (.c 24 rfl (.c 213 rfl .nil)))))) ?_
      refine sx_condP rfl (fun h455x1 => ?_) (fun h455x1 => ?_)
      ·
       refine sx_region ?_
       refine mv rfl rfl (mv rfl rfl (mv rfl rfl (mv rfl rfl (mv rfl rfl ?_))))
       have f75 := f65.ext c66
       refine sx_call rfl rfl Try.call103 (c_symMergeE1 f75 (by omega) (by omega) (by assumption) (by assumption)) (fun v76 w76 p76 => ?_)
       obtain ⟨rfl, c76⟩ := p76
       have zw76 := c76.size
       refine wl_nil ?_
       refine sx_end0 rfl ?_
       exact ⟨rfl, ((cwl51.t c66).t c76)⟩
      refine sx_skip ?_
      refine sx_end0 rfl ?_
      exact ⟨rfl, (cwl51.t c66)⟩
     refine sx_guardF rfl rfl rfl rfl rfl rfl ?_
     refine sx_guardF rfl rfl rfl rfl rfl rfl ?_
     refine sx_guardF rfl rfl rfl rfl rfl rfl ?_
     refine sp rfl (px_pick rfl rfl) ?_
     refine wl_nil (q_n (k74 _ _ ?_))
     refine sx_sub (Sub.c 0 rfl (.c 3 rfl (.c 4 rfl (.c 18 rfl (.c 24 rfl (.c 213 rfl .nil)))))) ?_
     refine sx_condF rfl ?_
     refine sx_skip ?_
     refine sx_end0 rfl ?_
     exact ⟨rfl, (cwl51.t c66)⟩
    refine sx_guardF rfl rfl rfl rfl rfl rfl ?_
    refine sx_guardF rfl rfl rfl rfl rfl rfl ?_
    refine sx_guardF rfl rfl rfl rfl rfl rfl ?_
    refine sp rfl (px_pick rfl rfl) ?_
    refine wl_nil (q_n (k68 _ _ ?_))
    refine sx_sub (Sub.c 0 rfl (.c 1 rfl (.c 3 rfl (.c 4 rfl (.c 18 rfl (.c 20 rfl (.c 24 rfl (.c 199 rfl .nil)))))))) ?_
    refine sx_condF rfl ?_
    refine sx_skip ?_
    refine q_n (k67 _ _ ?_)
    refine sx_seq fun K77 k77 => sx_region ?_
    refine mv rfl rfl (mv rfl rfl (sp rfl (px_lt rfl rfl) ?_))
    refine mv rfl rfl ?_
    refine sx_tmpP (t := 209) rfl (fun h455 => ?_) (fun h455 => ?_)
    ·
     refine sx_guardT rfl rfl rfl ?_
     refine mv rfl rfl ?_
     refine sx_guardT rfl rfl rfl ?_
     refine mv rfl rfl ?_
     refine sx_guardT rfl rfl rfl ?_
     refine sp rfl (px_lt rfl rfl) ?_
     refine sp rfl (px_pick rfl rfl) ?_
     refine wl_nil (q_n (k77 _ _ ?_))
     refine sx_sub (Sub.c 0 rfl (.c 3 rfl (.c 4 rfl (.c 18 rfl (.c 24 rfl (.c 213 rfl .nil)))))) ?_
     refine sx_condP rfl (fun h455x1 => ?_) (fun h455x1 => ?_)
     ·
      refine sx_region ?_
      refine mv rfl rfl (mv rfl rfl (mv rfl rfl (mv rfl rfl (mv rfl rfl ?_))))
      have f78 := f65.ext c66
      refine sx_call rfl rfl Try.call103 (c_symMergeE1 f78 (by omega) (by omega) (by assumption) (by assumption)) (fun v79 w79 p79 => ?_)
      obtain ⟨rfl, c79⟩ := p79
      have zw79 := c79.size
      refine wl_nil ?_
      refine sx_end0 rfl ?_
      exact ⟨rfl, ((cwl51.t c66).t c79)⟩
     refine sx_skip ?_
     refine sx_end0 rfl ?_
     exact ⟨rfl, (cwl51.t c66)⟩
    refine sx_guardF rfl rfl rfl rfl rfl rfl ?_
    refine sx_guardF rfl rfl rfl rfl rfl rfl ?_
    refine sx_guardF rfl rfl rfl rfl rfl rfl ?_
    refine sp rfl (px_pick rfl rfl) ?_
    refine wl_nil (q_n (k77 _ _ ?_))
    refine sx_sub (Sub.c 0 rfl (.c 3 rfl (.c 4 rfl (.c 18 rfl (.c 24 rfl (.c 213 rfl .nil)))))) ?_
    refine sx_condF rfl ?_
    refine sx_skip ?_
    refine sx_end0 rfl ?_
    exact ⟨rfl, (cwl51.t c66)⟩
   refine sx_skip ?_
   refine q_n (k63 _ _ ?_)
   refine sx_seq fun K80 k80 => ?_
   refine sx_seq fun K81 k81 => sx_region ?_
   refine mv rfl rfl (mv rfl rfl (sp rfl (px_lt rfl rfl) ?_))
   refine mv rfl rfl ?_
   refine sx_tmpP (t := 195) rfl (fun h452 => ?_) (fun h452 => ?_)
   ·
    refine sx_guardT rfl rfl rfl ?_
    refine mv rfl rfl ?_
    refine sx_guardT rfl rfl rfl ?_
    refine mv rfl rfl ?_
    refine sx_guardT rfl rfl rfl ?_
    refine sp rfl (px_lt rfl rfl) ?_
    refine sp rfl (px_pick rfl rfl) ?_
    refine wl_nil (q_n (k81 _ _ ?_))
    refine sx_sub (Sub.c 0 rfl (.c 1 rfl (.c 3 rfl (.c 4 rfl (.c 18 rfl (.c 20 rfl (.c 24 rfl (.c 199 rfl .nil)))))))) ?_
    refine sx_condP rfl (fun h452x1 => ?_) (fun h452x1 => ?_)
    ·
     refine sx_region ?_
     refine mv rfl rfl (mv rfl rfl (mv rfl rfl (mv rfl rfl (mv rfl rfl ?_))))
     have f82 := hvd.ext cwl51
     refine sx_call rfl rfl Try.call103 (c_symMergeE1 f82 (by omega) (by omega) (by assumption) (by assumption)) (fun v83 w83 p83 => ?_)
     obtain ⟨rfl, c83⟩ := p83
     have zw83 := c83.size
     refine wl_nil (q_n (k80 _ _ ?_))
     refine sx_seq fun K84 k84 => sx_region ?_
     refine mv rfl rfl (mv rfl rfl (sp rfl (px_lt rfl rfl) ?_))
     refine mv rfl rfl ?_
     refine sx_tmpP (t := 209) rfl (fun h455 => ?_) (fun h455 => ?_)
     ·
      refine sx_guardT rfl rfl rfl ?_
      refine mv rfl rfl ?_
      refine sx_guardT rfl rfl rfl ?_
      refine mv rfl rfl ?_
      refine sx_guardT rfl rfl rfl ?_
      refine sp rfl (px_lt rfl rfl) ?_
      refine sp rfl (px_pick rfl rfl) ?_
      refine wl_nil (q_n (k84 _ _ ?_))
      refine sx_sub (Sub.c 0 rfl (.c 3 rfl (.c 4 rfl (.c 18 rfl (.c 24 rfl (.c 213 rfl .nil)))))) ?_
      refine sx_condP rfl (fun h455x1 => ?_) (fun h455x1 => ?_)
      ·
       refine sx_region ?_
       refine mv rfl rfl (mv rfl rfl (mv rfl rfl (mv rfl rfl (mv rfl rfl ?_))))
       have f85 := f82.ext c83
       refine sx_call rfl rfl Try.call103 (c_symMergeE1 f85 (by omega) (by omega) (by assumption) (by assumption)) (fun v86 w86 p86 => ?_)
       obtain ⟨rfl, c86⟩ := p86
       have zw86 := c86.size
       refine wl_nil ?_
       refine sx_end0 rfl ?_
       exact ⟨rfl, ((cwl51.t c83).t c86)⟩
      refine sx_skip ?_
      refine sx_end0 rfl ?_
      exact ⟨rfl, (cwl51.t c83)⟩
     refine sx_guardF rfl rfl rfl rfl rfl rfl ?_
     refine sx_guardF rfl rfl rfl rfl rfl rfl ?_
     refine sx_guardF rfl rfl rfl rfl rfl rfl ?_
     refine sp rfl (px_pick rfl rfl) ?_
     refine wl_nil (q_n (k84 _ _ ?_))
     refine sx_sub (Sub.c 0 rfl (.c 3 rfl (.c 4 rfl (.c 18 rfl (.c 24 rfl (.c 213 rfl .nil)))))) ?_
     refine sx_condF rfl ?_
     refine sx_skip ?_
     refine sx_end0 rfl ?_
     exact ⟨rfl, (cwl51.t c83)⟩
    refine sx_skip ?_
    refine q_n (k80 _ _ ?_)
    refine sx_seq fun K87 k87 => sx_region ?_
    refine mv rfl rfl (mv rfl rfl (sp rfl (px_lt rfl rfl) ?_))
    refine mv rfl rfl ?_
    refine sx_tmpP (t := 209) rfl (fun h455 => ?_) (fun h455 => ?_)
    ·
     refine sx_guardT rfl rfl rfl ?_
     refine mv rfl rfl ?_
     refine sx_guardT rfl rfl rfl ?_
     refine mv rfl rfl ?_
     refine sx_guardT rfl rfl rfl ?_
     refine sp rfl (px_lt rfl rfl) ?_
     refine sp rfl (px_pick rfl rfl) ?_
     refine wl_nil (q_n (k87 _ _ ?_))
     refine sx_sub (Sub.c 0 rfl (.c 3 rfl (.c 4 rfl (.c 18 rfl (.c 24 rfl (.c 213 rfl .nil)))))) ?_
     refine sx_condP rfl (fun h455x1 => ?_) (fun h455x1 => ?_)
     ·
      refine sx_region ?_
      refine mv rfl rfl (mv rfl rfl (mv rfl rfl (mv rfl rfl (mv rfl rfl ?_))))
      have f88 := hvd.ext cwl51
      refine sx_call rfl rfl Try.call103 (c_symMergeE1 f88 (by omega) (by omega) (by assumption) (by assumption)) (fun v89 w89 p89 => ?_)
      obtain ⟨rfl, c89⟩ := p89
      have zw89 := c89.size
      refine wl_nil ?_
      refine sx_end0 rfl ?_
      exact ⟨rfl, (cwl51.t c89)⟩
     refine sx_skip ?_
     refine sx_end0 rfl ?_
     exact ⟨rfl, cwl51⟩
    refine sx_guardF rfl rfl rfl rfl rfl rfl ?_
    refine sx_guardF rfl rfl rfl rfl rfl rfl ?_
    refine sx_guardF rfl rfl rfl rfl rfl rfl ?_
    refine sp rfl (px_pick rfl rfl) ?_
    refine wl_nil (q_n (k87 _ _ ?_))
    refine sx_sub (Sub.c 0 rfl (.c 3 rfl (.c 4 rfl (.c 18 rfl (.c 24 rfl (.c 213 rfl .nil)))))) ?_
    refine sx_condF rfl ?_
    refine sx_skip ?_
    refine sx_end0 rfl ?_
    exact ⟨rfl, cwl51⟩
   refine sx_guardF rfl rfl rfl rfl rfl rfl ?_
   refine sx_guardF rfl rfl rfl rfl rfl rfl ?_
   refine sx_guardF rfl rfl rfl rfl rfl rfl ?_
   refine sp rfl (px_pick rfl rfl) ?_
   refine wl_nil (q_n (k81 _ _ ?_))
   refine sx_sub (Sub.c 0 rfl (.c 1 rfl (.c 3 rfl (.c 4 rfl (.c 18 rfl (.c 20 rfl (.c 24 rfl (.c 199 rfl .nil)))))))) ?_
   refine sx_condF rfl ?_
   refine sx_skip ?_
   refine q_n (k80 _ _ ?_)
   refine sx_seq fun K90 k90 => sx_region ?_
   refine mv rfl rfl (mv rfl rfl (sp rfl (px_lt rfl rfl) ?_))
   refine mv rfl rfl ?_
   refine sx_tmpP (t := 209) rfl (fun h455 => ?_) (fun h455 => ?_)
   ·
    refine sx_guardT rfl rfl rfl ?_
    refine mv rfl rfl ?_
    refine sx_guardT rfl rfl rfl ?_
    refine mv rfl rfl ?_
    refine sx_guardT rfl rfl rfl ?_
    refine sp rfl (px_lt rfl rfl) ?_
    refine sp rfl (px_pick rfl rfl) ?_
    refine wl_nil (q_n (k90 _ _ ?_))
    refine sx_sub (Sub.c 0 rfl (.c 3 rfl (.c 4 rfl (.c 18 rfl (.c 24 rfl (.c 213 rfl .nil)))))) ?_
    refine sx_condP rfl (fun h455x1 => ?_) (fun h455x1 => ?_)
    ·
     refine sx_region ?_
     refine mv rfl rfl (mv rfl rfl (mv rfl rfl (mv rfl rfl (mv rfl rfl ?_))))
     have f91 := hvd.ext cwl51
     refine sx_call rfl rfl Try.call103 (c_symMergeE1 f91 (by omega) (by omega) (by assumption) (by assumption)) (fun v92 w92 p92 => ?_)
     obtain ⟨rfl, c92⟩ := p92
     have zw92 := c92.size
     refine wl_nil ?_
     refine sx_end0 rfl ?_
     exact ⟨rfl, (cwl51.t c92)⟩
    refine sx_skip ?_
    refine sx_end0 rfl ?_
    exact ⟨rfl, cwl51⟩
   refine sx_guardF rfl rfl rfl rfl rfl rfl ?_
   refine sx_guardF rfl rfl rfl rfl rfl rfl ?_
   refine sx_guardF rfl rfl rfl rfl rfl rfl ?_
   refine sp rfl (px_pick rfl rfl) ?_
   refine wl_nil (q_n (k90 _ _ ?_))
   refine sx_sub (Sub.c 0 rfl (.c 3 rfl (.c 4 rfl (.c 18 rfl (.c 24 rfl (.c 213 rfl .nil)))))) ?_
   refine sx_condF rfl ?_
   refine sx_skip ?_
   refine sx_end0 rfl ?_
   exact ⟨rfl, cwl51⟩
  refine sx_guardF rfl rfl rfl rfl rfl rfl ?_
  refine sx_guardF rfl rfl rfl rfl rfl rfl ?_
  refine sx_guardF rfl rfl rfl rfl rfl rfl ?_
  refine sp rfl (px_pick rfl rfl) ?_
  refine wl_nil (q_n (k64 _ _ ?_))
  refine sx_sub (Sub.c 0 rfl (.c 1 rfl (.c 2 rfl (.c 3 rfl (.c 4 rfl (.c 18 rfl (.c 20 rfl (.c 24 rfl (.c 185 rfl .nil))))))))) ?_
  refine sx_condF rfl ?_
  refine sx_skip ?_
  refine q_n (k63 _ _ ?_)
  refine sx_seq fun K93 k93 => ?_
  refine sx_seq fun K94 k94 => sx_region ?_
  refine mv rfl rfl (mv rfl rfl (sp rfl (px_lt rfl rfl) ?_))
  refine mv rfl rfl ?_
  refine sx_tmpP (t := 195) rfl (fun h452 => ?_) (fun h452 => ?_)
  ·
   refine sx_guardT rfl rfl rfl ?_
   refine mv rfl rfl ?_
   refine sx_guardT rfl rfl rfl ?_
   refine mv rfl rfl ?_
   refine sx_guardT rfl rfl rfl ?_
   refine sp rfl (px_lt rfl rfl) ?_
   refine sp rfl (px_pick rfl rfl) ?_
   refine wl_nil (q_n (k94 _ _ ?_))
   refine sx_sub (Sub.c 0 rfl (.c 1 rfl (.c 3 rfl (.c 4 rfl (.c 18 rfl (.c 20 rfl (.c 24 rfl (.c 199 rfl .nil)))))))) ?_
   refine sx_condP rfl (fun h452x1 => ?_) (fun h452x1 => ?_)
   ·
    refine sx_region ?_
    refine mv rfl rfl (mv rfl rfl (mv rfl rfl (mv rfl rfl (mv rfl rfl ?_))))
    have f95 := hvd.ext cwl51
    refine sx_call rfl rfl Try.call103 (c_symMergeE1 f95 (by omega) (by omega) (by assumption) (by assumption)) (fun v96 w96 p96 => ?_)
    obtain ⟨rfl, c96⟩ := p96
    have zw96 := c96.size
    refine wl_nil (q_n (k93 _ _ ?_))
    refine sx_seq fun K97 k97 => sx_region ?_
    refine mv rfl rfl (mv rfl rfl (sp rfl (px_lt rfl rfl) ?_))
    refine mv rfl rfl ?_
    refine sx_tmpP (t := 209) rfl (fun h455 => ?_) (fun h455 => ?_)
    ·
     refine sx_guardT rfl rfl rfl ?_
     refine mv rfl rfl ?_
     refine sx_guardT rfl rfl rfl ?_
     refine mv rfl rfl ?_
     refine sx_guardT rfl rfl rfl ?_
     refine sp rfl (px_lt rfl rfl) ?_
     refine sp rfl (px_pick rfl rfl) ?_
     refine wl_nil (q_n (k97 _ _ ?_))
     refine sx_sub (Sub.c 0 rfl (.c 3 rfl (.c 4 rfl (.c 18 rfl (.c 24 rfl (.c 213 rfl .nil)))))) ?_
     refine sx_condP rfl (fun h455x1 => ?_) (fun h455x1 => ?_)
     ·
      refine sx_region ?_
      refine mv rfl rfl (mv rfl rfl (mv rfl rfl (mv rfl rfl (mv rfl rfl ?_))))
      have f98 := f95.ext c96
      refine sx_call rfl rfl Try.call103 (c_symMergeE1 f98 (by omega) (by omega) (by assumption) (by assumption)) (fun v99 w99 p99 => ?_)
      obtain ⟨rfl, c99⟩ := p99
      have zw99 := c99.size
      refine wl_nil ?_
      refine sx_end0 rfl ?_
      exact ⟨rfl, ((cwl51.t c96).t c99)⟩
     refine sx_skip ?_
     refine sx_end0 rfl ?_
     exact ⟨rfl, (cwl51.t c96)⟩
    refine sx_guardF rfl rfl rfl rfl rfl rfl ?_
    refine sx_guardF rfl rfl rfl rfl rfl rfl ?_
    refine sx_guardF rfl rfl rfl rfl rfl rfl ?_
    refine sp rfl (px_pick rfl rfl) ?_
    refine wl_nil (q_n (k97 _ _ ?_))
    refine sx_sub (Sub.c 0 rfl (.c 3 rfl (.c 4 rfl (.c 18 rfl (.c 24 rfl (.c 213 rfl .nil)))))) ?_
    refine sx_condF rfl ?_
    refine sx_skip ?_
    refine sx_end0 rfl ?_
    exact ⟨rfl, (cwl51.t c96)⟩
   refine sx_skip ?_
   refine q_n (k93 _ _ ?_)
   refine sx_seq fun K100 k100 => sx_region ?_
   refine mv rfl rfl (mv rfl rfl (sp rfl (px_lt rfl rfl) ?_))
   refine mv rfl rfl ?_
   refine sx_tmpP (t := 209) rfl (fun h455 => ?_) (fun h455 => ?_)
   ·
    refine sx_guardT rfl rfl rfl ?_
    refine mv rfl rfl ?_
    refine sx_guardT rfl rfl rfl ?_
    refine mv rfl rfl ?_
    refine sx_guardT rfl rfl rfl ?_
    refine sp rfl (px_lt rfl rfl) ?_
    refine sp rfl (px_pick rfl rfl) ?_
    refine wl_nil (q_n (k100 _ _ ?_))
    refine sx_sub (Sub.c 0 rfl (.c 3 rfl (.c 4 rfl (.c 18 rfl (.c 24 rfl (.c 213 rfl .nil)))))) ?_
    refine sx_condP rfl (fun h455x1 => ?_) (fun h455x1 => ?_)
    ·
     refine sx_region ?_
     refine mv rfl rfl (mv rfl rfl (mv rfl rfl (mv rfl rfl (mv rfl rfl ?_))))
     have f101 := hvd.ext cwl51
     refine sx_call rfl rfl Try.call103 (c_symMergeE1 f101 (by omega) (by omega) (by assumption) (by assumption)) (fun v102 w102 p102 => ?_)
     obtain ⟨rfl, c102⟩ := p102
     have zw102 := c102.size
     refine wl_nil ?_
     refine sx_end0 rfl ?_
     exact ⟨rfl, (cwl51.t c102)⟩
    refine sx_skip ?_
    refine sx_end0 rfl ?_
    exact ⟨rfl, cwl51⟩
   refine sx_guardF rfl rfl rfl rfl rfl rfl ?_
   refine sx_guardF rfl rfl rfl rfl rfl rfl ?_
   refine sx_guardF rfl rfl rfl rfl rfl rfl ?_
   refine sp rfl (px_pick rfl rfl) ?_
   refine wl_nil (q_n (k100 _ _ ?_))
   refine sx_sub (Sub.c 0 rfl (.c 3 rfl (.c 4 rfl (.c 18 rfl (.c 24 rfl (.c 213 rfl .nil)))))) ?_
   refine sx_condF rfl ?_
   refine sx_skip ?_
   refine sx_end0 rfl ?_
   exact ⟨rfl, cwl51⟩
  refine sx_guardF rfl rfl rfl rfl rfl rfl ?_
  refine sx_guardF rfl rfl rfl rfl rfl rfl ?_
  refine sx_guardF rfl rfl rfl rfl rfl rfl ?_
  refine sp rfl (px_pick rfl rfl) ?_
  refine wl_nil (q_n (k94 _ _ ?_))
  refine sx_sub (Sub.c 0 rfl (.c 1 rfl (.c 3 rfl (.c 4 rfl (.c 18 rfl (.c 20 rfl (.c 24 rfl (.c 199 rfl .nil)))))))) ?_
  refine sx_condF rfl ?_
  refine sx_skip ?_
  refine q_n (k93 _ _ ?_)
  refine sx_seq fun K103 k103 => sx_region ?_
  refine mv rfl rfl (mv rfl rfl (sp rfl (px_lt rfl rfl) ?_))
  refine mv rfl rfl ?_
  refine sx_tmpP (t := 209) rfl (fun h455 => ?_) (fun h455 => ?_)
  ·
   refine sx_guardT rfl rfl rfl ?_
   refine mv rfl rfl ?_
   refine sx_guardT rfl rfl rfl ?_
   refine mv rfl rfl ?_
   refine sx_guardT rfl rfl rfl ?_
   refine sp rfl (px_lt rfl rfl) ?_
   refine sp rfl (px_pick rfl rfl) ?_
   refine wl_nil (q_n (k103 _ _ ?_))
   refine sx_sub (Sub.c 0 rfl (.c 3 rfl (.c 4 rfl (.c 18 rfl (.c 24 rfl (.c 213 rfl .nil)))))) ?_
   refine sx_condP rfl (fun h455x1 => ?_) (fun h455x1 => ?_)
   ·
    refine sx_region ?_
    refine mv rfl rfl (mv rfl rfl (mv rfl rfl (mv rfl rfl (mv rfl rfl ?_))))
    have f104 := hvd.ext cwl51
    refine sx_call rfl rfl Try.call103 (c_symMergeE1 f104 (by omega) (by omega) (by assumption) (by assumption)) (fun v105 w105 p105 => ?_)
    obtain ⟨rfl, c105⟩ := p105
    have zw105 := c105.size
    refine wl_nil ?_
    refine sx_end0 rfl ?_
    exact ⟨rfl, (cwl51.t c105)⟩
   refine sx_skip ?_
   refine sx_end0 rfl ?_
   exact ⟨rfl, cwl51⟩
  refine sx_guardF rfl rfl rfl rfl rfl rfl ?_
  refine sx_guardF rfl rfl rfl rfl rfl rfl ?_
  refine sx_guardF rfl rfl rfl rfl rfl rfl ?_
  refine sp rfl (px_pick rfl rfl) ?_
  refine wl_nil (q_n (k103 _ _ ?_))
  refine sx_sub (Sub.c 0 rfl (.c 3 rfl (.c 4 rfl (.c 18 rfl (.c 24 rfl (.c 213 rfl .nil)))))) ?_
  refine sx_condF rfl ?_
  refine sx_skip ?_
  refine sx_end0 rfl ?_
  exact ⟨rfl, cwl51⟩
 refine sx_seq fun K106 k106 => sx_region ?_
 refine mv rfl rfl (av rfl rfl (wl_nil (q_n (k106 _ _ ?_))))
 refine sx_region ?_
 refine mv rfl rfl (av rfl rfl (wl_nil (q_n (k46 _ _ ?_))))
 refine sx_seq fun K107 k107 => sx_region ?_
 refine mv rfl rfl (sp rfl (px_sub rfl rfl (by omega)) ?_)
 refine av rfl rfl (wl_nil (q_n (k107 _ _ ?_)))
 refine sx_sub (Sub.c 0 rfl (.c 1 rfl (.c 2 rfl (.c 3 rfl (.c 4 rfl (.c 18 rfl (.c 19 rfl (.c 20 rfl (.c 21 rfl (.c 22 rfl .nil)))))))))) ?_
 refine sx_seq fun K108 k108 => ?_
 refine sx_block ?_
 refine sx_loop (fun mm aa w' => ∃ (s : Int), Agr 220 [(0, vd), (1, .int .i64 ia), (2, .int .i64 im), (3, .int .i64 ib), (4, .func (.func 33) #[] #[]), (18, .int .i64 ((ia + ib) / 2)), (19, .int .i64 (((ia + ib) / 2) + im)), (20, .int .i64 s), (21, .int .i64 im), (22, .int .i64 ((((ia + ib) / 2) + im) - 1))] aa ∧ Chg 0 0 w w' ∧ (mm = (im - s).toNat) ∧ (ia ≤ s ∧ s ≤ im)) (_) (fun a ha => ⟨ia, ha.sub (Sub.c 0 rfl (.c 1 rfl (.c 2 rfl (.c 3 rfl (.c 4 rfl (.c 18 rfl (.c 19 rfl (.c 20 (look_int (t := 20) rfl (by first | omega | simp)) (.c 21 rfl (.c 22 rfl .nil)))))))))), Chg.refl _ _ _, rfl, by omega⟩) ?_
 rintro mm aa wl109 ⟨s, hAwl109, cwl109, hm, hs⟩
 refine (show cw Try.prog 220 _ _ _ wl109 from ?_) aa hAwl109
 clear hAwl109
 have zwl109 := cwl109.size
 refine sx_seq fun K110 k110 => ?_
 refine sx_seq fun K111 k111 => sx_region ?_
 refine mv rfl rfl (mv rfl rfl (sp rfl (px_lt rfl rfl) ?_))
 refine wl_nil (q_n (k111 _ _ ?_))
 refine sx_condP rfl (fun h439 => ?_) (fun h439 => ?_)
 ·
  refine sx_skip ?_
  refine q_n (k110 _ _ ?_)
  refine sx_block ?_
  refine sx_seq fun K112 k112 => sx_region ?_
  refine mv rfl rfl (mv rfl rfl (sp rfl (px_add rfl rfl (by omega)) ?_))
  refine sp rfl (px_convU Try.underlying3 Try.underlying108 rfl (by omega)) ?_
  refine sp rfl (px_shrU1 rfl rfl) ?_
  refine sp rfl (px_convI Try.underlying108 Try.underlying3 rfl (by omega)) ?_
  refine av rfl rfl (wl_nil (q_n (k112 _ _ ?_)))
  refine sx_sub (Sub.c 0 rfl (.c 1 rfl (.c 2 rfl (.c 3 rfl (.c 4 rfl (.c 18 rfl (.c 19 rfl (.c 20 rfl (.c 21 rfl (.c 22 rfl (.c 23 rfl .nil))))))))))) ?_
  refine sx_seq fun K113 k113 => ?_
  have f114 := hvd.ext cwl109
  refine dx_region (fun w' => Chg 0 0 wl109 w') (by kernel_rfl) (Chg.zero (Chg.drew _)) ?_
  have d115 := Chg.drew wl109
  have s115 : Chg 0 0 wl109 (World.drew wl109) := Chg.zero (Chg.drew _)
  have y115 : (World.drew wl109).heap.size = wl109.heap.size := rfl
  generalize World.drew wl109 = w115 at *
  have zw115 := d115.size
  refine dt 0 rfl rfl rfl rfl s115 (fun _ hS => px_move rfl) ?_
  refine dt 1 rfl rfl rfl rfl s115 (fun _ hS => px_move rfl) ?_
  refine dt 2 rfl rfl rfl rfl s115 (fun _ hS => px_move rfl) ?_
  refine dt 3 rfl rfl rfl rfl s115 (fun _ hS => px_move rfl) ?_
  refine dt 4 rfl rfl rfl rfl s115 (fun _ hS => px_sub rfl rfl (by omega)) ?_
  refine dt 5 rfl rfl rfl rfl s115 (fun _ hS => px_indexK (j := (((((ia + ib) / 2) + im) - 1).toNat - ((s + im) / 2).toNat)) rfl rfl (by omega) Try.underlying61 Try.sizeOf66 ((f114.sv).chg hS (by omega)) (by omega)) ?_
  refine dt 6 rfl rfl rfl rfl s115 (fun _ hS => px_load rfl (((f114.sv).chg hS (by omega)).loadA (pt_look (by first | omega | (simp only [List.length_set]; omega))) Try.isAgg66 Try.sizeOf66)) ?_
  refine dt 7 rfl rfl rfl rfl s115 (fun _ hS => px_move rfl) ?_
  refine dt 8 rfl rfl rfl rfl s115 (fun _ hS => px_move rfl) ?_
  refine dt 9 rfl rfl rfl rfl s115 (fun _ hS => px_indexK (j := ((s + im) / 2).toNat) rfl rfl (by omega) Try.underlying61 Try.sizeOf66 ((f114.sv).chg hS (by omega)) (by omega)) ?_
  refine dt 10 rfl rfl rfl rfl s115 (fun _ hS => px_load rfl (((f114.sv).chg hS (by omega)).loadA (pt_look (by first | omega | (simp only [List.length_set]; omega))) Try.isAgg66 Try.sizeOf66)) ?_
  refine dx_eff 11 rfl (by kernel_rfl) ?_
  have f116 := (f114.rest (j := ((((ia + ib) / 2) + im) - 1).toNat - ((s + im) / 2).toNat) (by first | omega | (simp only [List.length_set]; omega))).ext d115
  have f117 := (f114.rest (j := ((s + im) / 2).toNat) (by first | omega | (simp only [List.length_set]; omega))).ext d115
  refine sx_callV rfl rfl rfl Try.call33 (c_before f116 f117 (⟨hr _, hr _⟩)) (fun v118 w118 p118 => ?_)
  obtain ⟨rfl, c118⟩ := p118
  have zw118 := c118.size
  have s119 : Chg 0 0 wl109 w118 := (d115.t c118)
  refine wl_nil ?_
  refine dx_next s119 ?_
  refine dt 12 rfl rfl rfl rfl s119 (fun _ hS => px_lt rfl rfl) ?_
  refine dt 13 rfl rfl rfl rfl s119 (fun _ hS => px_notP rfl) ?_
  refine dx_done (by kernel_rfl) ?_
  refine q_n (k113 _ _ ?_)
  refine sx_sub (Sub.c 0 rfl (.c 1 rfl (.c 2 rfl (.c 3 rfl (.c 4 rfl (.c 18 rfl (.c 19 rfl (.c 20 rfl (.c 21 rfl (.c 22 rfl (.c 23 rfl (.c 171 rfl .nil)))))))))))) ?_
  have h441 : ¬ ((orC (r (ix.getD (((((ia + ib) / 2) + im) - 1).toNat - ((s + im) / 2).toNat) 0)) (r (ix.getD (((s + im) / 2).toNat) 0)) (((ix.getD (((((ia + ib) / 2) + im) - 1).toNat - ((s + im) / 2).toNat) 0) : Nat) : Int) (((ix.getD (((s + im) / 2).toNat) 0) : Nat) : Int) : Int) < 0) := fun hb => bef_asymm (hS _ _ (by omega) (by omega)) (orC_neg.1 hb)
  refine sx_condPT rfl h441 ?_
  refine sx_region ?_
  refine mv rfl rfl (sp rfl (px_add rfl rfl (by omega)) ?_)
  refine av rfl rfl (wl_nil ?_)
  exact q_bn (fun a ha => ⟨_, by omega, (((s + im) / 2) + 1), ha.sub (Sub.c 0 rfl (.c 1 rfl (.c 2 rfl (.c 3 rfl (.c 4 rfl (.c 18 rfl (.c 19 rfl (.c 20 (look_int (t := 20) rfl (by first | omega | simp)) (.c 21 rfl (.c 22 rfl .nil)))))))))), ((cwl109.t d115).t c118), rfl, by omega⟩)
 refine sx_exit ?_
 refine q_e (q_e (q_bx (q_n (k108 _ _ ?_))))
 refine sx_seq fun K120 k120 => sx_region ?_
 refine mv rfl rfl (mv rfl rfl (sp rfl (px_sub rfl rfl (by omega)) ?_))
 refine av rfl rfl (wl_nil (q_n (k120 _ _ ?_)))
 refine sx_sub (Sub.c 0 rfl (.c 1 rfl (.c 2 rfl (.c 3 rfl (.c 4 rfl (.c 18 rfl (.c 20 rfl (.c 24 rfl .nil)))))))) ?_
 refine sx_seq fun K121 k121 => ?_
 refine sx_seq fun K122 k122 => sx_region ?_
 refine mv rfl rfl (mv rfl rfl (sp rfl (px_lt rfl rfl) ?_))
 refine mv rfl rfl ?_
 refine sx_tmpP (t := 181) rfl (fun h449 => ?_) (fun h449 => ?_)
 ·
  refine sx_guardT rfl rfl rfl ?_
  refine mv rfl rfl ?_
  refine sx_guardT rfl rfl rfl ?_
  refine mv rfl rfl ?_
  refine sx_guardT rfl rfl rfl ?_
  refine sp rfl (px_lt rfl rfl) ?_
  refine sp rfl (px_pick rfl rfl) ?_
  refine wl_nil (q_n (k122 _ _ ?_))
  refine sx_sub (Sub.c 0 rfl (.c 1 rfl (.c 2 rfl (.c 3 rfl (.c 4 rfl (.c 18 rfl (.c 20 rfl (.c 24 rfl (.c 185 rfl .nil))))))))) ?_
  refine sx_condP rfl (fun h449x1 => ?_) (fun h449x1 => ?_)
  ·
   refine sx_region ?_
   refine mv rfl rfl (mv rfl rfl (mv rfl rfl (mv rfl rfl (mv rfl rfl ?_))))
   have f123 := hvd.ext cwl109
   refine sx_call rfl rfl Try.call104 (c_rotNone f123 (by omega)) (fun v124 w124 p124 => ?_)
   obtain ⟨rfl, c124⟩ := p124
   have zw124 := c124.size
   refine wl_nil (q_n (k121 _ _ ?_))
   refine sx_sub (Sub.c 0 rfl (.c 1 rfl (.c 3 rfl (.c 4 rfl (.c 18 rfl (.c 20 rfl (.c 24 rfl .nil))))))) ?_
   refine sx_seq fun K125 k125 => ?_
   refine sx_seq fun K126 k126 => sx_region ?_
   refine mv rfl rfl (mv rfl rfl (sp rfl (px_lt rfl rfl) ?_))
   refine mv rfl rfl ?_
   refine sx_tmpP (t := 195) rfl (fun h452 => ?_) (fun h452 => ?_)
   ·
    refine sx_guardT rfl rfl rfl ?_
    refine mv rfl rfl ?_
    refine sx_guardT rfl rfl rfl ?_
    refine mv rfl rfl ?_
    refine sx_guardT rfl rfl rfl ?_
    refine sp rfl (px_lt rfl rfl) ?_
    refine sp rfl (px_pick rfl rfl) ?_
    refine wl_nil (q_n (k126 _ _ ?_))
    refine sx_sub (Sub.c 0 rfl (.c 1 rfl (.c 3 rfl (.c 4 rfl (.c 18 rfl (.c 20 rfl (.c 24 rfl (.c 199 rfl .nil)))))))) ?_
    refine sx_condP rfl (fun h452x1 => ?_) (fun h452x1 => ?_)
    ·
     refine sx_region ?_
     refine mv rfl rfl (mv rfl rfl (mv rfl rfl (mv rfl rfl (mv rfl rfl ?_))))
     have f127 := f123.ext c124
     refine sx_call rfl rfl Try.call103 (c_symMergeE1 f127 (by omega) (by omega) (by assumption) (by assumption)) (fun v128 w128 p128 => ?_)
     obtain ⟨rfl, c128⟩ := p128
     have zw128 := c128.size
     refine wl_nil (q_n (k125 _ _ ?_))
     refine sx_seq fun K129 k129 => sx_region ?_
     refine mv rfl rfl (mv rfl rfl (sp rfl (px_lt rfl rfl) ?_))
     refine mv rfl rfl ?_
     refine sx_tmpP (t := 209) rfl (fun h455 => ?_) (fun h455 => ?_)
     ·
      refine sx_guardT rfl rfl rfl ?_
      refine mv rfl rfl ?_
      refine sx_guardT rfl rfl rfl ?_
      refine mv rfl rfl ?_
      refine sx_guardT rfl rfl rfl ?_
      refine sp rfl (px_lt rfl rfl) ?_
      refine sp rfl (px_pick rfl rfl) ?_
      refine wl_nil (q_n (k129 _ _ ?_))
      refine sx_sub (Sub.c 0 rfl (.c 3 rfl (.c 4 rfl (.c 18 rfl (.c 24 rfl (.c 213 rfl .nil)))))) ?_
      refine sx_condP rfl (fun h455x1 => ?_) (fun h455x1 => ?_)
      ·
       refine sx_region ?_
       refine mv rfl rfl (mv rfl rfl (mv rfl rfl (mv rfl rfl (mv rfl rfl ?_))))
       have f130 := f127.ext c128
       refine sx_call rfl rfl Try.call103 (c_symMergeE1 f130 (by omega) (by omega) (by assumption) (by assumption)) (fun v131 w131 p131 => ?_)
       obtain ⟨rfl, c131⟩ := p131
       have zw131 := c131.size
       refine wl_nil ?_
       refine sx_end0 rfl ?_
       exact ⟨rfl, (((cwl109.t c124).t c128).t c131)⟩
      refine sx_skip ?_
      refine sx_end0 rfl ?_
      exact ⟨rfl, ((cwl109.t c124).t c128)⟩
     refine sx_guardF rfl rfl rfl rfl rfl rfl ?_
     refine sx_guardF rfl rfl rfl rfl rfl rfl ?_
     refine sx_guardF rfl rfl rfl rfl rfl rfl ?_
     refine sp rfl (px_pick rfl rfl) ?_
     refine wl_nil (q_n (k129 _ _ ?_))
     refine sx_sub (Sub.c 0 rfl (.c 3 rfl (.c 4 rfl (.c 18 rfl (.c 24 rfl (.c 213 rfl .nil)))))) ?_
     refine sx_condF rfl ?_
     refine sx_skip ?_
     refine sx_end0 rfl ?_
     exact ⟨rfl, ((cwl109.t c124).t c128)⟩
    refine sx_skip ?_
    refine q_n (k125 _ _ ?_)
    refine sx_seq fun K132 k132 => sx_region ?_
    refine mv rfl rfl (mv rfl rfl (sp rfl (px_lt rfl rfl) ?_))
    refine mv rfl rfl ?_
    refine sx_tmpP (t := 209) rfl (fun h455 => ?_) (fun h455 => ?_)
    ·
     refine sx_guardT rfl rfl rfl ?_
     refine mv rfl rfl ?_
     refine sx_guardT rfl rfl rfl ?_
     refine mv rfl rfl ?_
     refine sx_guardT rfl rfl rfl ?_
     refine sp rfl (px_lt rfl rfl) ?_
     refine sp rfl (px_pick rfl rfl) ?_
     refine wl_nil (q_n (k132 _ _ ?_))
     refine sx_sub (Sub.c 0 rfl (.c 3 rfl (.c 4 rfl (.c 18 rfl (.c 24 rfl (.c 213 rfl .nil)))))) ?_
     refine sx_condP rfl (fun h455x1 => ?_) (fun h455x1 => ?_)
     ·
      refine sx_region ?_
      refine mv rfl rfl (mv rfl rfl (mv rfl rfl (mv rfl rfl (mv rfl rfl ?_))))
      have f133 := f123.ext c124
      refine sx_call rfl rfl Try.call103 (c_symMergeE1 f133 (by omega) (by omega) (by assumption) (by assumption)) (fun v134 w134 p134 => ?_)
      obtain ⟨rfl, c134⟩ := p134
      have zw134 := c134.size
      refine wl_nil ?_
      refine sx_end0 rfl ?_
      exact ⟨rfl, ((cwl109.t c124).t c134)⟩
     refine sx_skip ?_
     refine sx_end0 rfl ?_
     exact ⟨rfl, (cwl109.t c124)⟩
    refine sx_guardF rfl rfl rfl rfl rfl rfl ?_
    refine sx_guardF rfl rfl rfl rfl rfl rfl ?_
    refine sx_guardF rfl rfl rfl rfl rfl rfl ?_
    refine sp rfl (px_pick rfl rfl) ?_
    refine wl_nil (q_n (k132 _ _ ?_))
    refine sx_sub (Sub.c 0 rfl (.c 3 rfl (.c 4 rfl (.c 18 rfl (.c 24 rfl (.c 213 rfl .nil)))))) ?_
    refine sx_condF rfl ?_
    refine sx_skip ?_
    refine sx_end0 rfl ?_
    exact ⟨rfl, (cwl109.t c124)⟩
   refine sx_guardF rfl rfl rfl rfl rfl rfl ?_
   refine sx_guardF rfl rfl rfl rfl rfl rfl ?_
   refine sx_guardF rfl rfl rfl rfl rfl rfl ?_
   refine sp rfl (px_pick rfl rfl) ?_
   refine wl_nil (q_n (k126 _ _ ?_))
   refine sx_sub (Sub.c 0 rfl (.c 1 rfl (.c 3 rfl (.c 4 rfl (.c 18 rfl (.c 20 rfl (.c 24 rfl (.c 199 rfl .nil)))))))) ?_
   refine sx_condF rfl ?_
   refine sx_skip ?_
   refine q_n (k125 _ _ ?_)
   refine sx_seq fun K135 k135 => sx_region ?_
   refine mv rfl rfl (mv rfl rfl (sp rfl (px_lt rfl rfl) ?_))
   refine mv rfl rfl ?_
   refine sx_tmpP (t := 209) rfl (fun h455 => ?_) (fun h455 => ?_)
   ·
    refine sx_guardT rfl rfl rfl ?_
    refine mv rfl rfl ?_
    refine sx_guardT rfl rfl rfl ?_
    refine mv rfl rfl ?_
    refine sx_guardT rfl rfl rfl ?_
    refine sp rfl (px_lt rfl rfl) ?_
    refine sp rfl (px_pick rfl rfl) ?_
    refine wl_nil (q_n (k135 _ _ ?_))
    refine sx_sub (Sub.c 0 rfl (.c 3 rfl (.c 4 rfl (.c 18 rfl (.c 24 rfl (.c 213 rfl .nil)))))) ?_
    refine sx_condP rfl (fun h455x1 => ?_) (fun h455x1 => ?_)
    ·
     refine sx_region ?_
     refine mv rfl rfl (mv rfl rfl (mv rfl rfl (mv rfl rfl (mv rfl rfl ?_))))
     have f136 := f123.ext c124
     refine sx_call rfl rfl Try.call103 (c_symMergeE1 f136 (by omega) (by omega) (by assumption) (by assumption)) (fun v137 w137 p137 => ?_)
     obtain ⟨rfl, c137⟩ := p137
     have zw137 := c137.size
     refine wl_nil ?_
     refine sx_end0 rfl ?_
     exact ⟨rfl, ((cwl109.t c124).t c137)⟩
    refine sx_skip ?_
    refine sx_end0 rfl ?_
    exact ⟨rfl, (cwl109.t c124)⟩
   refine sx_guardF rfl rfl rfl rfl rfl rfl ?_
   refine sx_guardF rfl rfl rfl rfl rfl rfl ?_
   refine sx_guardF rfl rfl rfl rfl rfl rfl ?_
   refine sp rfl (px_pick rfl rfl) ?_
   refine wl_nil (q_n (k135 _ _ ?_))
   refine sx_sub (Sub.c 0 rfl (.c 3 rfl (.c 4 rfl (.c 18 rfl (.c 24 rfl (.c 213 rfl .nil)))))) ?_
   refine sx_condF rfl ?_
   refine sx_skip ?_
   refine sx_end0 rfl ?_
   exact ⟨rfl, (cwl109.t c124)⟩
  refine sx_skip ?_
  refine q_n (k121 _ _ ?_)
  refine sx_seq fun K138 k138 => ?_
  refine sx_seq fun K139 k139 => sx_region ?_
  refine mv rfl rfl (mv rfl rfl (sp rfl (px_lt rfl rfl) ?_))
  refine mv rfl rfl ?_
  refine sx_tmpP (t := 195) rfl (fun h452 => ?_) (fun h452 => ?_)
  ·
   refine sx_guardT rfl rfl rfl ?_
   refine mv rfl rfl ?_
   refine sx_guardT rfl rfl rfl ?_
   refine mv rfl rfl ?_
   refine sx_guardT rfl rfl rfl ?_
   refine sp rfl (px_lt rfl rfl) ?_
   refine sp rfl (px_pick rfl rfl) ?_
   refine wl_nil (q_n (k139 _ _ ?_))
   refine sx_sub (Sub.c 0 rfl (.c 1 rfl (.c 3 rfl (.c 4 rfl (.c 18 rfl (.c 20 rfl (.c 24 rfl (.c 199 rfl .nil)))))))) ?_
   refine sx_condP rfl (fun h452x1 => ?_) (fun h452x1 => ?_)
   ·
    refine sx_region ?_
    refine mv rfl rfl (mv rfl rfl (mv rfl rfl (mv rfl rfl (mv rfl rfl ?_))))
    have f140 := hvd.ext cwl109
    refine sx_call rfl rfl Try.call103 (c_symMergeE1 f140 (by omega) (by omega) (by assumption) (by assumption)) (fun v141 w141 p141 => ?_)
    obtain ⟨rfl, c141⟩ := p141
    have zw141 := c141.size
    refine wl_nil (q_n (k138 _ _ ?_))
    refine sx_seq fun K142 k142 => sx_region ?_
    refine mv rfl rfl (mv rfl rfl (sp rfl (px_lt rfl rfl) ?_))
    refine mv rfl rfl ?_
    refine sx_tmpP (t := 209) rfl (fun h455 => ?_) (fun h455 => ?_)
    ·
     refine sx_guardT rfl rfl rfl ?_
     refine mv rfl rfl ?_
     refine sx_guardT rfl rfl rfl ?_
     refine mv rfl rfl ?_
     refine sx_guardT rfl rfl rfl ?_
     refine sp rfl (px_lt rfl rfl) ?_
     refine sp rfl (px_pick rfl rfl) ?_
     refine wl_nil (q_n (k142 _ _ ?_))
     refine sx_sub (Sub.c 0 rfl (.c 3 rfl (.c 4 rfl (.c 18 rfl (.c 24 rfl (.c 213 rfl .nil)))))) ?_
     refine sx_condP rfl (fun h455x1 => ?_) (fun h455x1 => ?_)
     ·
      refine sx_region ?_
      refine mv rfl rfl (mv rfl rfl (mv rfl rfl (mv rfl rfl (mv rfl rfl ?_))))
      have f143 := f140.ext c141
      refine sx_call rfl rfl Try.call103 (c_symMergeE1 f143 (by omega) (by omega) (by assumption) (by assumption)) (fun v144 w144 p144 => ?_)
      obtain ⟨rfl, c144⟩ := p144
      have zw144 := c144.size
      refine wl_nil ?_
      refine sx_end0 rfl ?_
      exact ⟨rfl, ((cwl109.t c141).t c144)⟩
     refine sx_skip ?_
     refine sx_end0 rfl ?_
     exact ⟨rfl, (cwl109.t c141)⟩
    refine sx_guardF rfl rfl rfl rfl rfl rfl ?_
    refine sx_guardF rfl rfl rfl rfl rfl rfl ?_
    refine sx_guardF rfl rfl rfl rfl rfl rfl ?_
    refine sp rfl (px_pick rfl rfl) ?_
    refine wl_nil (q_n (k142 _ _ ?_))
    refine sx_sub (Sub.c 0 rfl (.c 3 rfl (.c 4 rfl (.c 18 rfl (.c 24 rfl (.c 213 rfl .nil)))))) ?_
    refine sx_condF rfl ?_
    refine sx_skip ?_
    refine sx_end0 rfl ?_
    exact ⟨rfl, (cwl109.t c141)⟩
   refine sx_skip ?_
   refine q_n (k138 _ _ ?_)
   refine sx_seq fun K145 k145 => sx_region ?_
   refine mv rfl rfl (mv rfl rfl (sp rfl (px_lt rfl rfl) ?_))
   refine mv rfl rfl ?_
   refine sx_tmpP (t := 209) rfl (fun h455 => ?_) (fun h455 => ?_)
   ·
    refine sx_guardT rfl rfl rfl ?_
    refine mv rfl rfl ?_
    refine sx_guardT rfl rfl rfl ?_
    refine mv rfl rfl ?_
    refine sx_guardT rfl rfl rfl ?_
    refine sp rfl (px_lt rfl rfl) ?_
    refine sp rfl (px_pick rfl rfl) ?_
    refine wl_nil (q_n (k145 _ _ ?_))
    refine sx_sub (Sub.c 0 rfl (.c 3 rfl (.c 4 rfl (.c 18 rfl (.c 24 rfl (.c 213 rfl .nil)))))) ?_
    refine sx_condP rfl (fun h455x1 => ?_) (fun h455x1 => ?_)
    ·
     refine sx_region ?_
     refine mv rfl rfl (mv rfl rfl (mv rfl rfl (mv rfl rfl (mv rfl rfl ?_))))
     have f146 := hvd.ext cwl109
     refine sx_call rfl rfl Try.call103 (c_symMergeE1 f146 (by omega) (by omega) (by assumption) (by assumption)) (fun v147 w147 p147 => ?_)
     obtain ⟨rfl, c147⟩ := p147
     have zw147 := c147.size
     refine wl_nil ?_
     refine sx_end0 rfl ?_
     exact ⟨rfl, (cwl109.t c147)⟩
    refine sx_skip ?_
    refine sx_end0 rfl ?_
    exact ⟨rfl, cwl109⟩
   refine sx_guardF rfl rfl rfl rfl rfl rfl ?_
   refine sx_guardF rfl rfl rfl rfl rfl rfl ?_
   refine sx_guardF rfl rfl rfl rfl rfl rfl ?_
   refine sp rfl (px_pick rfl rfl) ?_
   refine wl_nil (q_n (k145 _ _ ?_))
   refine sx_sub (Sub.c 0 rfl (.c 3 rfl (.c 4 rfl (.c 18 rfl (.c 24 rfl (.c 213 rfl .nil)))))) ?_
   refine sx_condF rfl ?_
   refine sx_skip ?_
   refine sx_end0 rfl ?_
   exact ⟨rfl, cwl109⟩
  refine sx_guardF rfl rfl rfl rfl rfl rfl ?_
  refine sx_guardF rfl rfl rfl rfl rfl rfl ?_
  refine sx_guardF rfl rfl rfl rfl rfl rfl ?_
  refine sp rfl (px_pick rfl rfl) ?_
  refine wl_nil (q_n (k139 _ _ ?_))
  refine sx_sub (Sub.c 0 rfl (.c 1 rfl (.c 3 rfl (.c 4 rfl (.c 18 rfl (.c 20 rfl (.c 24 rfl (.c 199 rfl .nil)))))))) ?_
  refine sx_condF rfl ?_
  refine sx_skip ?_
  refine q_n (k138 _ _ ?_)
  refine sx_seq fun K148 k148 => sx_region ?_
  refine mv rfl rfl (mv rfl rfl (sp rfl (px_lt rfl rfl) ?_))
  refine mv rfl rfl ?_
  refine sx_tmpP (t := 209) rfl (fun h455 => ?_) (fun h455 => ?_)
  ·
   refine sx_guardT rfl rfl rfl ?_
   refine mv rfl rfl ?_
   refine sx_guardT rfl rfl rfl ?_
   refine mv rfl rfl ?_
   refine sx_guardT rfl rfl rfl ?_
   refine sp rfl (px_lt rfl rfl) ?_
   refine sp rfl (px_pick rfl rfl) ?_
   refine wl_nil (q_n (k148 _ _ ?_))
   refine sx_sub (Sub.c 0 rfl (.c 3 rfl (.c 4 rfl (.c 18 rfl (.c 24 rfl (.c 213 rfl .nil)))))) ?_
   refine sx_condP rfl (fun h455x1 => ?_) (fun h455x1 => ?_)
   ·
    refine sx_region ?_
    refine mv rfl rfl (mv rfl rfl (mv rfl rfl (mv rfl rfl (mv rfl rfl ?_))))
    have f149 := hvd.ext cwl109
    refine sx_call rfl rfl Try.call103 (c_symMergeE1 f149 (by omega) (by omega) (by assumption) (by assumption)) (fun v150 w150 p150 => ?_)
    obtain ⟨rfl, c150⟩ := p150
    have zw150 := c150.size
    refine wl_nil ?_
    refine sx_end0 rfl ?_
    exact ⟨rfl, (cwl109.t c150)⟩
   refine sx_skip ?_
   refine sx_end0 rfl ?_
   exact ⟨rfl, cwl109⟩
  refine sx_guardF rfl rfl rfl rfl rfl rfl ?_
  refine sx_guardF rfl rfl rfl rfl rfl rfl ?_
  refine sx_guardF rfl rfl rfl rfl rfl rfl ?_
  refine sp rfl (px_pick rfl rfl) ?_
  refine wl_nil (q_n (k148 _ _ ?_))
  refine sx_sub (Sub.c 0 rfl (.c 3 rfl (.c 4 rfl (.c 18 rfl (.c 24 rfl (.c 213 rfl .nil)))))) ?_
  refine sx_condF rfl ?_
  refine sx_skip ?_
  refine sx_end0 rfl ?_
  exact ⟨rfl, cwl109⟩
 refine sx_guardF rfl rfl rfl rfl rfl rfl ?_
 refine sx_guardF rfl rfl rfl rfl rfl rfl ?_
 refine sx_guardF rfl rfl rfl rfl rfl rfl ?_
 refine sp rfl (px_pick rfl rfl) ?_
 refine wl_nil (q_n (k122 _ _ ?_))
 refine sx_sub (Sub.c 0 rfl (.c 1 rfl (.c 2 rfl (.c 3 rfl (.c 4 rfl (.c 18 rfl (.c 20 rfl (.c 24 rfl (.c 185 rfl .nil))))))))) ?_
 refine sx_condF rfl ?_
 refine sx_skip ?_
 refine q_n (k121 _ _ ?_)
 refine sx_seq fun K151 k151 => ?_
 refine sx_seq fun K152 k152 => sx_region ?_
 refine mv rfl rfl (mv rfl rfl (sp rfl (px_lt rfl rfl) ?_))
 refine mv rfl rfl ?_
 refine sx_tmpP (t := 195) rfl (fun h452 => ?_) (fun h452 => ?_)
 ·
  refine sx_guardT rfl rfl rfl ?_
  refine mv rfl rfl ?_
  refine sx_guardT rfl rfl rfl ?_
  refine mv rfl rfl ?_
  refine sx_guardT rfl rfl rfl ?_
  refine sp rfl (px_lt rfl rfl) ?_
  refine sp rfl (px_pick rfl rfl) ?_
  refine wl_nil (q_n (k152 _ _ ?_))
  refine sx_sub (Sub.c 0 rfl (.c 1 rfl (.c 3 rfl (.c 4 rfl (.c 18 rfl (.c 20 rfl (.c 24 rfl (.c 199 rfl .nil)))))))) ?_
  refine sx_condP rfl (fun h452x1 => ?_) (fun h452x1 => ?_)
  ·
   refine sx_region ?_
   refine mv rfl rfl (mv rfl rfl (mv rfl rfl (mv rfl rfl (mv rfl rfl ?_))))
   have f153 := hvd.ext cwl109
   refine sx_call rfl rfl Try.call103 (c_symMergeE1 f153 (by omega) (by omega) (by assumption) (by assumption)) (fun v154 w154 p154 => ?_)
   obtain ⟨rfl, c154⟩ := p154
   have zw154 := c154.size
   refine wl_nil (q_n (k151 _ _ ?_))
   refine sx_seq fun K155 k155 => sx_region ?_
   refine mv rfl rfl (mv rfl rfl (sp rfl (px_lt rfl rfl) ?_))
   refine mv rfl rfl ?_
   refine sx_tmpP (t := 209) rfl (fun h455 => ?_) (fun h455 => ?_)
   ·
    refine sx_guardT rfl rfl rfl ?_
    refine mv rfl rfl ?_
    refine sx_guardT rfl rfl rfl ?_
    refine mv rfl rfl ?_
    refine sx_guardT rfl rfl rfl ?_
    refine sp rfl (px_lt rfl rfl) ?_
    refine sp rfl (px_pick rfl rfl) ?_
    refine wl_nil (q_n (k155 _ _ ?_))
    refine sx_sub (Sub.c 0 rfl (.c 3 rfl (.c 4 rfl (.c 18 rfl (.c 24 rfl (.c 213 rfl .nil)))))) ?_
    refine sx_condP rfl (fun h455x1 => ?_) (fun h455x1 => ?_)
    ·
     refine sx_region ?_
     refine mv rfl rfl (mv rfl rfl (mv rfl rfl (mv rfl rfl (mv rfl rfl ?_))))
     have f156 := f153.ext c154
     refine sx_call rfl rfl Try.call103 (c_symMergeE1 f156 (by omega) (by omega) (by assumption) (by assumption)) (fun v157 w157 p157 => ?_)
     obtain ⟨rfl, c157⟩ := p157
     have zw157 := c157.size
     refine wl_nil ?_
     refine sx_end0 rfl ?_
     exact ⟨rfl, ((cwl109.t c154).t c157)⟩
    refine sx_skip ?_
    refine sx_end0 rfl ?_
    exact ⟨rfl, (cwl109.t c154)⟩
   refine sx_guardF rfl rfl rfl rfl rfl rfl ?_
   refine sx_guardF rfl rfl rfl rfl rfl rfl ?_
   refine sx_guardF rfl rfl rfl rfl rfl rfl ?_
   refine sp rfl (px_pick rfl rfl) ?_
   refine wl_nil (q_n (k155 _ _ ?_))
   refine sx_sub (Sub.c 0 rfl (.c 3 rfl (.c 4 rfl (.c 18 rfl (.c 24 rfl (.c 213 rfl .nil)))))) ?_
   refine sx_condF rfl ?_
   refine sx_skip ?_
   refine sx_end0 rfl ?_
   exact ⟨rfl, (cwl109.t c154)⟩
  refine sx_skip ?_
  refine q_n (k151 _ _ ?_)
  refine sx_seq fun K158 k158 => sx_region ?_
  refine mv rfl rfl (mv rfl rfl (sp rfl (px_lt rfl rfl) ?_))
  refine mv rfl rfl ?_
  refine sx_tmpP (t := 209) rfl (fun h455 => ?_) (fun h455 => ?_)
  ·
   refine sx_guardT rfl rfl rfl ?_
   refine mv rfl rfl ?_
   refine sx_guardT rfl rfl rfl ?_
   refine mv rfl rfl ?_
   refine sx_guardT rfl rfl rfl ?_
   refine sp rfl (px_lt rfl rfl) ?_
   refine sp rfl (px_pick rfl rfl) ?_
   refine wl_nil (q_n (k158 _ _ ?_))
   refine sx_sub (Sub.c 0 rfl (.c 3 rfl (.c 4 rfl (.c 18 rfl (.c 24 rfl (.c 213 rfl .nil)))))) ?_
   refine sx_condP rfl (fun h455x1 => ?_) (fun h455x1 => ?_)
   ·
    refine sx_region ?_
    refine mv rfl rfl (mv rfl rfl (mv rfl rfl (mv rfl rfl (mv rfl rfl ?_))))
    have f159 := hvd.ext cwl109
    refine sx_call rfl rfl Try.call103 (c_symMergeE1 f159 (by omega) (by omega) (by assumption) (by assumption)) (fun v160 w160 p160 => ?_)
    obtain ⟨rfl, c160⟩ := p160
    have zw160 := c160.size
    refine wl_nil ?_
    refine sx_end0 rfl ?_
    exact ⟨rfl, (cwl109.t c160)⟩
   refine sx_skip ?_
   refine sx_end0 rfl ?_
   exact ⟨rfl, cwl109⟩
  refine sx_guardF rfl rfl rfl rfl rfl rfl ?_
  refine sx_guardF rfl rfl rfl rfl rfl rfl ?_
  refine sx_guardF rfl rfl rfl rfl rfl rfl ?_
  refine sp rfl (px_pick rfl rfl) ?_
  refine wl_nil (q_n (k158 _ _ ?_))
  refine sx_sub (Sub.c 0 rfl (.c 3 rfl (.c 4 rfl (.c 18 rfl (.c 24 rfl (.c 213 rfl .nil)))))) ?_
  refine sx_condF rfl ?_
  refine sx_skip ?_
  refine sx_end0 rfl ?_
  exact ⟨rfl, cwl109⟩
 refine sx_guardF rfl rfl rfl rfl rfl rfl ?_
 refine sx_guardF rfl rfl rfl rfl rfl rfl ?_
 refine sx_guardF rfl rfl rfl rfl rfl rfl ?_
 refine sp rfl (px_pick rfl rfl) ?_
 refine wl_nil (q_n (k152 _ _ ?_))
 refine sx_sub (Sub.c 0 rfl (.c 1 rfl (.c 3 rfl (.c 4 rfl (.c 18 rfl (.c 20 rfl (.c 24 rfl (.c 199 rfl .nil)))))))) ?_
 refine sx_condF rfl ?_
 refine sx_skip ?_
 refine q_n (k151 _ _ ?_)
 refine sx_seq fun K161 k161 => sx_region ?_
 refine mv rfl rfl (mv rfl rfl (sp rfl (px_lt rfl rfl) ?_))
 refine mv rfl rfl ?_
 refine sx_tmpP (t := 209) rfl (fun h455 => ?_) (fun h455 => ?_)
 ·
  refine sx_guardT rfl rfl rfl ?_
  refine mv rfl rfl ?_
  refine sx_guardT rfl rfl rfl ?_
  refine mv rfl rfl ?_
  refine sx_guardT rfl rfl rfl ?_
  refine sp rfl (px_lt rfl rfl) ?_
  refine sp rfl (px_pick rfl rfl) ?_
  refine wl_nil (q_n (k161 _ _ ?_))
  refine sx_sub (Sub.c 0 rfl (.c 3 rfl (.c 4 rfl (.c 18 rfl (.c 24 rfl (.c 213 rfl .nil)))))) ?_
  refine sx_condP rfl (fun h455x1 => ?_) (fun h455x1 => ?_)
  ·
   refine sx_region ?_
   refine mv rfl rfl (mv rfl rfl (mv rfl rfl (mv rfl rfl (mv rfl rfl ?_))))
   have f162 := hvd.ext cwl109
   refine sx_call rfl rfl Try.call103 (c_symMergeE1 f162 (by omega) (by omega) (by assumption) (by assumption)) (fun v163 w163 p163 => ?_)
   obtain ⟨rfl, c163⟩ := p163
   have zw163 := c163.size
   refine wl_nil ?_
   refine sx_end0 rfl ?_
   exact ⟨rfl, (cwl109.t c163)⟩
  refine sx_skip ?_
  refine sx_end0 rfl ?_
  exact ⟨rfl, cwl109⟩
 refine sx_guardF rfl rfl rfl rfl rfl rfl ?_
 refine sx_guardF rfl rfl rfl rfl rfl rfl ?_
 refine sx_guardF rfl rfl rfl rfl rfl rfl ?_
 refine sp rfl (px_pick rfl rfl) ?_
 refine wl_nil (q_n (k161 _ _ ?_))
 refine sx_sub (Sub.c 0 rfl (.c 3 rfl (.c 4 rfl (.c 18 rfl (.c 24 rfl (.c 213 rfl .nil)))))) ?_
 refine sx_condF rfl ?_
 refine sx_skip ?_
 refine sx_end0 rfl ?_
 exact ⟨rfl, cwl109⟩

end Go.Proofs.Ytjkeefmpjocilaa
