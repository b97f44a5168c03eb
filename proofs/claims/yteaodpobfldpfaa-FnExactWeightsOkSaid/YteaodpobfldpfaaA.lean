/- Contracts of functions of the program: what each call returns, and that it changes nothing that was. Conditions: as each says. -/
import Derived.Test.YteaodpobfldpfaaTy
import Derived.Test.YteaodpobfldpfaaNat
set_option linter.unusedVariables false
set_option linter.unusedSimpArgs false
namespace Go.Proofs.Yteaodpobfldpfaa
open Go Go.RowKit
set_option maxRecDepth 100000
theorem c_eqIntS {w : World} {va : Value} {lva uva : Nat} {zs : List Int} {vb : Value} {lvb uvb : Nat} {ys : List Int} (hva : Sl w lva uva va (zs)) (hvb : Sl w lvb uvb vb (ys)) (h63 : zs.length ≤ 4611686018427387904 ∧ ys.length ≤ 4611686018427387904) :
    Ret Try.prog 10 [va, vb] w fun v w' => v = .bool (decide (zs = ys)) ∧ Chg 0 0 w w' := by
  have hva0 := hva.fit
  have hvb0 := hvb.fit
  have hneq : zs.length ≠ ys.length → zs ≠ ys := fun h e => h (by rw [e])
  refine sx_enter Try.func10 rfl Try.ntmps10 (Nat.le_of_ble_eq_true rfl) ?_
  refine sx_seq fun K1 k1 => ?_
  refine sx_region ?_
  refine sx_pure rfl rfl rfl (px_assign rfl) ?_
  refine wl_nil ?_
  refine q_n (k1 _ _ ?_)
  refine sx_seq fun K2 k2 => ?_
  refine sx_seq fun K3 k3 => ?_
  refine sx_region ?_
  refine sx_pure rfl rfl rfl (px_move rfl) ?_
  refine sx_pure rfl rfl rfl (px_len rfl Try.underlying24 hva0) ?_
  refine sx_pure rfl rfl rfl (px_move rfl) ?_
  refine sx_pure rfl rfl rfl (px_len rfl Try.underlying24 hvb0) ?_
  refine sx_pure rfl rfl rfl (px_ne rfl rfl) ?_
  refine wl_nil ?_
  refine q_n (k3 _ _ ?_)
  refine sx_condP rfl (fun h210 => ?_) (fun h210 => ?_)
  ·
    refine sx_seq fun K4 k4 => ?_
    refine sx_region ?_
    refine sx_pure rfl rfl rfl (px_assign rfl) ?_
    refine wl_nil ?_
    refine q_n (k4 _ _ ?_)
    refine sx_retc ?_
    refine q_r (sx_ret1 Try.results10 rfl ?_)
    exact ⟨bFalse (hneq (by omega)), (Chg.refl 0 0 _)⟩
  ·
    refine sx_skip ?_
    refine q_n (k2 _ _ ?_)
    refine sx_seq fun K5 k5 => ?_
    refine sx_seq fun K6 k6 => ?_
    refine sx_region ?_
    refine sx_pure rfl rfl rfl (px_assign rfl) ?_
    refine wl_nil ?_
    refine q_n (k6 _ _ ?_)
    refine sx_block ?_
    refine sx_loop (fun mm aa w' => ∃ (k : Nat), Agr 26 [(0, va), (1, vb), (5, .int .i64 ↑k)] aa ∧ Chg 0 0 w w' ∧ (mm = zs.length - k) ∧ (k ≤ zs.length) ∧ (zs.take k = ys.take k)) (_) (fun a ha => ⟨0, ha.sub (Sub.cons (t := 0) rfl (.cons (t := 1) rfl (.cons (t := 5) (look_int (t := 5) rfl (by first | omega | simp)) (.nil)))), Chg.refl _ _ _, rfl, by omega, by simp⟩) ?_
    rintro mm aa wl7 ⟨k, hAwl7, cwl7, hm, hk, he⟩
    refine (show cw Try.prog 26 _ _ _ wl7 from ?_) aa hAwl7
    clear hAwl7
    have zwl7 := cwl7.size
    refine sx_seq fun K8 k8 => ?_
    refine sx_seq fun K9 k9 => ?_
    refine sx_region ?_
    refine sx_pure rfl rfl rfl (px_move rfl) ?_
    refine sx_pure rfl rfl rfl (px_move rfl) ?_
    have f10 := hva0.ext cwl7
    refine sx_pure rfl rfl rfl (px_len rfl Try.underlying24 f10) ?_
    refine sx_pure rfl rfl rfl (px_lt rfl rfl) ?_
    refine wl_nil ?_
    refine q_n (k9 _ _ ?_)
    refine sx_condP rfl (fun h213 => ?_) (fun h213 => ?_)
    ·
      refine sx_skip ?_
      refine q_n (k8 _ _ ?_)
      refine sx_seq fun K11 k11 => ?_
      refine sx_block ?_
      refine sx_seq fun K12 k12 => ?_
      have f13 := hvb0.ext cwl7
      refine dx_region (fun w' => Chg 0 0 wl7 w') (by kernel_rfl) (Chg.zero (Chg.drew _)) ?_
      have d14 := Chg.drew wl7
      have s14 : Chg 0 0 wl7 (World.drew wl7) := Chg.zero (Chg.drew _)
      have y14 : (World.drew wl7).heap.size = wl7.heap.size := rfl
      generalize World.drew wl7 = w14 at *
      have zw14 := d14.size
      refine dx_take 0 rfl rfl rfl rfl (by kernel_rfl) (by kernel_rfl) (by kernel_rfl) s14 (fun _ hS => px_move rfl) ?_
      refine dx_take 1 rfl rfl rfl rfl (by kernel_rfl) (by kernel_rfl) (by kernel_rfl) s14 (fun _ hS => px_move rfl) ?_
      refine dx_take 2 rfl rfl rfl rfl (by kernel_rfl) (by kernel_rfl) (by kernel_rfl) s14 (fun _ hS => px_index1 (j := k) rfl rfl (by omega) Try.underlying24 Try.sizeOf3 ((f10).chg hS (by omega)) (by omega)) ?_
      refine dx_take 3 rfl rfl rfl rfl (by kernel_rfl) (by kernel_rfl) (by kernel_rfl) s14 (fun _ hS => px_load rfl (((f10).chg hS (by omega)).load1 (at_int (by omega)) Try.isAgg3)) ?_
      refine dx_take 4 rfl rfl rfl rfl (by kernel_rfl) (by kernel_rfl) (by kernel_rfl) s14 (fun _ hS => px_move rfl) ?_
      refine dx_take 5 rfl rfl rfl rfl (by kernel_rfl) (by kernel_rfl) (by kernel_rfl) s14 (fun _ hS => px_move rfl) ?_
      refine dx_take 6 rfl rfl rfl rfl (by kernel_rfl) (by kernel_rfl) (by kernel_rfl) s14 (fun _ hS => px_index1 (j := k) rfl rfl (by omega) Try.underlying24 Try.sizeOf3 ((f13).chg hS (by omega)) (by omega)) ?_
      refine dx_take 7 rfl rfl rfl rfl (by kernel_rfl) (by kernel_rfl) (by kernel_rfl) s14 (fun _ hS => px_load rfl (((f13).chg hS (by omega)).load1 (at_int (by omega)) Try.isAgg3)) ?_
      refine dx_take 8 rfl rfl rfl rfl (by kernel_rfl) (by kernel_rfl) (by kernel_rfl) s14 (fun _ hS => px_ne rfl rfl) ?_
      refine dx_done (by kernel_rfl) ?_
      refine q_n (k12 _ _ ?_)
      refine sx_sub (Sub.cons (t := 0) rfl (.cons (t := 1) rfl (.cons (t := 5) rfl (.cons (t := 25) rfl (.nil))))) ?_
      refine sx_condP rfl (fun h214 => ?_) (fun h214 => ?_)
      ·
        refine sx_seq fun K15 k15 => ?_
        refine sx_region ?_
        refine sx_pure rfl rfl rfl (px_assign rfl) ?_
        refine wl_nil ?_
        refine q_n (k15 _ _ ?_)
        refine sx_retc ?_
        refine q_br (q_r (q_r (q_br (q_r (sx_ret1 Try.results10 rfl ?_)))))
        have q16 := Chg.step (l := 0) (h := 0) cwl7 d14 (by omega)
        exact ⟨bFalse (ne_of_getD h214), q16⟩
      ·
        refine sx_skip ?_
        refine q_bn (q_n (k11 _ _ ?_))
        refine sx_region ?_
        refine sx_pure rfl rfl rfl (px_move rfl) ?_
        refine sx_pure rfl rfl rfl (px_add rfl rfl (by omega)) ?_
        refine sx_pure rfl rfl rfl (px_assign rfl) ?_
        refine wl_nil ?_
        have q17 := Chg.step (l := 0) (h := 0) cwl7 d14 (by omega)
        exact fun a ha => ⟨_, by omega, (k + 1), ha.sub (Sub.cons (t := 0) rfl (.cons (t := 1) rfl (.cons (t := 5) (look_int (t := 5) rfl (by first | omega | simp)) (.nil)))), q17, rfl, by omega, take_succ_eq he (by omega) (by omega) (Decidable.not_not.1 h214)⟩
    ·
      refine sx_exit ?_
      refine q_e (q_e (q_bx (q_n (k5 _ _ ?_))))
      refine sx_seq fun K18 k18 => ?_
      refine sx_region ?_
      refine sx_pure rfl rfl rfl (px_assign rfl) ?_
      refine wl_nil ?_
      refine q_n (k18 _ _ ?_)
      refine sx_retc ?_
      refine sx_ret1 Try.results10 rfl ?_
      have e1 : k = zs.length := by omega
      rw [e1, List.take_length, List.take_of_length_le (by omega)] at he
      exact ⟨bTrue he, cwl7⟩

theorem c_toIntS {w : World} {va : Value} {lva uva : Nat} {zs : List Int} (hva : Sl w lva uva va (zs)) (h63 : zs.length ≤ 1048576) :
    Ret Try.prog 8 [va] w fun v w' => ∃ s, v = s ∧ OwnI w' w.heap.size w'.heap.size s intT (zs) ∧ Chg 0 0 w w' := by
  have hva0 := hva.fit
  refine sx_enter Try.func8 rfl Try.ntmps8 (Nat.le_of_ble_eq_true rfl) ?_
  refine sx_seq fun K1 k1 => ?_
  refine sx_region ?_
  refine sx_pure rfl rfl rfl (px_assign rfl) ?_
  refine wl_nil ?_
  refine q_n (k1 _ _ ?_)
  refine sx_seq fun K2 k2 => ?_
  refine sx_region ?_
  refine sx_pure rfl rfl rfl (px_move rfl) ?_
  refine sx_pure rfl rfl rfl (px_len rfl Try.underlying24 hva0) ?_
  refine sx_make (c := (zs).length) rfl xelt24 (rfl) (rfl) (by omega) (by unfold maxLen; omega) (fun s3 ws3 fs3 cs3 ls3 => ?_)
  have ns3 := fs3.made
  have zws3 := cs3.size
  refine sx_pure rfl rfl rfl (px_assign rfl) ?_
  refine wl_nil ?_
  refine q_n (k2 _ _ ?_)
  refine sx_seq fun K4 k4 => ?_
  refine sx_seq fun K5 k5 => ?_
  refine sx_region ?_
  refine sx_pure rfl rfl rfl (px_assign rfl) ?_
  refine wl_nil ?_
  refine q_n (k5 _ _ ?_)
  refine sx_block ?_
  refine sx_loop (fun mm aa w' => ∃ (k : Nat) (os : List Int), Agr 22 [(0, va), (3, s3), (4, .int .i64 ↑k)] aa ∧ Chg w.heap.size ws3.heap.size ws3 w' ∧ Own w' w.heap.size ws3.heap.size s3 3 os.length 1 (os.map (Value.int .i64)) ∧ (mm = zs.length - k) ∧ (k ≤ zs.length) ∧ (os.length = zs.length) ∧ (os.take k = zs.take k)) (_) (fun a ha => ⟨0, List.replicate zs.length 0, ha.sub (Sub.cons (t := 0) rfl (.cons (t := 3) rfl (.cons (t := 4) (look_int (t := 4) rfl (by first | omega | simp)) (.nil)))), Chg.refl _ _ _, (ns3.mono (by omega) (by omega)), rfl, by omega, by simp, by simp⟩) ?_
  rintro mm aa wl6 ⟨k, os, hAwl6, cwl6, hs_s3, hm, hk, ho, he⟩
  refine (show cw Try.prog 22 _ _ _ wl6 from ?_) aa hAwl6
  clear hAwl6
  have zwl6 := cwl6.size
  refine sx_seq fun K7 k7 => ?_
  refine sx_seq fun K8 k8 => ?_
  refine sx_region ?_
  refine sx_pure rfl rfl rfl (px_move rfl) ?_
  refine sx_pure rfl rfl rfl (px_move rfl) ?_
  have f9 := hva0.ext cs3
  have f10 := f9.chg cwl6 (by omega)
  refine sx_pure rfl rfl rfl (px_len rfl Try.underlying24 f10) ?_
  refine sx_pure rfl rfl rfl (px_lt rfl rfl) ?_
  refine wl_nil ?_
  refine q_n (k8 _ _ ?_)
  refine sx_condP rfl (fun h203 => ?_) (fun h203 => ?_)
  ·
    refine sx_skip ?_
    refine q_n (k7 _ _ ?_)
    refine sx_seq fun K11 k11 => ?_
    refine sx_block ?_
    refine sx_region ?_
    refine sx_pure rfl rfl rfl (px_move rfl) ?_
    refine sx_pure rfl rfl rfl (px_move rfl) ?_
    refine sx_pure rfl rfl rfl (px_move rfl) ?_
    refine sx_pure rfl rfl rfl (px_move rfl) ?_
    refine sx_pure rfl rfl rfl (px_index1 (j := k) rfl rfl (by omega) Try.underlying24 Try.sizeOf3 f10 (by omega)) ?_
    refine sx_pure rfl rfl rfl (px_load rfl (f10.load1 (at_int (by omega)) Try.isAgg3)) ?_
    refine sx_pure rfl rfl rfl (px_index1 (j := k) rfl rfl (by omega) Try.underlying24 Try.sizeOf3 hs_s3.sv (by omega)) ?_
    refine sx_storeO rfl rfl hs_s3 (by simp only [List.length_map]; omega) Try.sizeOf3 rfl (fun w12 sw12 fw12 cw12 => ?_)
    have zw12 := cw12.size
    have nw12 := fw12.set
    refine wl_nil ?_
    refine q_bn (q_n (k11 _ _ ?_))
    refine sx_region ?_
    refine sx_pure rfl rfl rfl (px_move rfl) ?_
    refine sx_pure rfl rfl rfl (px_add rfl rfl (by omega)) ?_
    refine sx_pure rfl rfl rfl (px_assign rfl) ?_
    refine wl_nil ?_
    have q13 := Chg.step (l := w.heap.size) (h := ws3.heap.size) cwl6 cw12 (by omega)
    exact fun a ha => ⟨_, by omega, (k + 1), (os.set k (zs.getD k 0)), ha.sub (Sub.cons (t := 0) rfl (.cons (t := 3) rfl (.cons (t := 4) (look_int (t := 4) rfl (by first | omega | simp)) (.nil)))), q13, (nw12.mono (by omega) (by omega)), rfl, by omega, by simp [ho], take_set_succ he (by omega) (by omega)⟩
  ·
    refine sx_exit ?_
    refine q_e (q_e (q_bx (q_n (k4 _ _ ?_))))
    refine sx_seq fun K14 k14 => ?_
    refine sx_region ?_
    refine sx_pure rfl rfl rfl (px_move rfl) ?_
    refine sx_pure rfl rfl rfl (px_assign rfl) ?_
    refine wl_nil ?_
    refine q_n (k14 _ _ ?_)
    refine sx_retc ?_
    refine sx_ret1 Try.results8 rfl ?_
    have e1 : k = zs.length := by omega
    rw [e1, List.take_length, List.take_of_length_le (by omega)] at he
    subst he
    have q15 := Chg.step (l := 0) (h := 0) cs3 cwl6 (by omega)
    exact ⟨_, rfl, Own.mono hs_s3 (by omega) (by omega), q15⟩

theorem c_l01In {w : World} {n : Int} {lo : Int} {hi : Int} :
    Ret Try.prog 11 [.int .i64 n, .int .i64 lo, .int .i64 hi] w fun v w' => v = .bool (decide (lo ≤ n ∧ n ≤ hi)) ∧ Chg 0 0 w w' := by
  refine sx_enter Try.func11 rfl Try.ntmps11 (Nat.le_of_ble_eq_true rfl) ?_
  refine sx_seq fun K1 k1 => ?_
  refine sx_region ?_
  refine sx_pure rfl rfl rfl (px_assign rfl) ?_
  refine wl_nil ?_
  refine q_n (k1 _ _ ?_)
  refine sx_seq fun K2 k2 => ?_
  refine sx_region ?_
  refine sx_pure rfl rfl rfl (px_move rfl) ?_
  refine sx_pure rfl rfl rfl (px_move rfl) ?_
  refine sx_pure rfl rfl rfl (px_ge rfl rfl) ?_
  refine sx_pure rfl rfl rfl (px_move rfl) ?_
  refine sx_tmpP (t := 10) rfl (fun h5 => ?_) (fun h5 => ?_)
  ·
    refine sx_guardT rfl rfl rfl ?_
    refine sx_pure rfl rfl rfl (px_move rfl) ?_
    refine sx_guardT rfl rfl rfl ?_
    refine sx_pure rfl rfl rfl (px_move rfl) ?_
    refine sx_guardT rfl rfl rfl ?_
    refine sx_pure rfl rfl rfl (px_le rfl rfl) ?_
    refine sx_pure rfl rfl rfl (px_pick rfl rfl) ?_
    refine sx_pure rfl rfl rfl (px_assign rfl) ?_
    refine wl_nil ?_
    refine q_n (k2 _ _ ?_)
    refine sx_retc ?_
    refine sx_ret1 Try.results11 rfl ?_
    exact ⟨(by first | exact bIff (by omega) | exact bFalse (by omega) | exact bTrue (by omega)), (Chg.refl 0 0 _)⟩
  ·
    refine sx_guardF rfl rfl rfl rfl rfl rfl ?_
    refine sx_guardF rfl rfl rfl rfl rfl rfl ?_
    refine sx_guardF rfl rfl rfl rfl rfl rfl ?_
    refine sx_pure rfl rfl rfl (px_pick rfl rfl) ?_
    refine sx_pure rfl rfl rfl (px_assign rfl) ?_
    refine wl_nil ?_
    refine q_n (k2 _ _ ?_)
    refine sx_retc ?_
    refine sx_ret1 Try.results11 rfl ?_
    exact ⟨(by first | exact bIff (by omega) | exact bFalse (by omega) | exact bTrue (by omega)), (Chg.refl 0 0 _)⟩

theorem c_l12Sum {w : World} {va : Value} {lva uva : Nat} {zs : List Int} (hva : Sl w lva uva va (zs)) (h63 : zs.length ≤ 30) (hz : ∀ x ∈ zs, 0 ≤ x ∧ x ≤ 1000000000) :
    Ret Try.prog 13 [va] w fun v w' => v = .int .i64 ((zs).sum) ∧ Chg 0 0 w w' := by
  have hva0 := hva.fit
  refine sx_enter Try.func13 rfl Try.ntmps13 (Nat.le_of_ble_eq_true rfl) ?_
  refine sx_seq fun K1 k1 => ?_
  refine sx_region ?_
  refine sx_pure rfl rfl rfl (px_assign rfl) ?_
  refine wl_nil ?_
  refine q_n (k1 _ _ ?_)
  refine sx_seq fun K2 k2 => ?_
  refine sx_region ?_
  refine sx_pure rfl rfl rfl (px_assign rfl) ?_
  refine wl_nil ?_
  refine q_n (k2 _ _ ?_)
  refine sx_seq fun K3 k3 => ?_
  refine sx_seq fun K4 k4 => ?_
  refine sx_region ?_
  refine sx_pure rfl rfl rfl (px_move rfl) ?_
  refine sx_pure rfl rfl rfl (px_len rfl Try.underlying24 hva0) ?_
  refine sx_pure rfl rfl rfl (px_move rfl) ?_
  refine wl_nil ?_
  refine q_n (k4 _ _ ?_)
  refine sx_block ?_
  refine sx_loop (fun mm aa w' => ∃ (k : Nat), Agr 17 [(3, .int .i64 ((zs.take k).sum)), (6, va), (7, .int .i64 ↑zs.length), (8, .int .i64 ↑k)] aa ∧ Chg 0 0 w w' ∧ (mm = zs.length - k) ∧ (k ≤ zs.length)) (_) (fun a ha => ⟨0, ha.sub (Sub.cons (t := 3) (look_int (t := 3) rfl (by first | omega | simp)) (.cons (t := 6) rfl (.cons (t := 7) (look_int (t := 7) rfl (by first | omega | simp)) (.cons (t := 8) (look_int (t := 8) rfl (by first | omega | simp)) (.nil))))), Chg.refl _ _ _, rfl, by omega⟩) ?_
  rintro mm aa wl5 ⟨k, hAwl5, cwl5, hm, hk⟩
  refine (show cw Try.prog 17 _ _ _ wl5 from ?_) aa hAwl5
  clear hAwl5
  have zwl5 := cwl5.size
  have hs := sum_bd hz k hk
  refine sx_seq fun K6 k6 => ?_
  refine sx_region ?_
  refine sx_pure rfl rfl rfl (px_lt rfl rfl) ?_
  refine wl_nil ?_
  refine q_n (k6 _ _ ?_)
  refine sx_seq fun K7 k7 => ?_
  refine sx_condP rfl (fun h7 => ?_) (fun h7 => ?_)
  ·
    refine sx_skip ?_
    refine q_n (k7 _ _ ?_)
    refine sx_seq fun K8 k8 => ?_
    refine sx_block ?_
    refine sx_seq fun K9 k9 => ?_
    refine sx_region ?_
    have f10 := hva0.ext cwl5
    refine sx_pure rfl rfl rfl (px_index1 (j := k) rfl rfl (by omega) Try.underlying24 Try.sizeOf3 f10 (by omega)) ?_
    refine sx_pure rfl rfl rfl (px_load rfl (f10.load1 (at_int (by omega)) Try.isAgg3)) ?_
    refine sx_pure rfl rfl rfl (px_assign rfl) ?_
    refine wl_nil ?_
    refine q_n (k9 _ _ ?_)
    refine sx_region ?_
    refine sx_pure rfl rfl rfl (px_move rfl) ?_
    refine sx_pure rfl rfl rfl (px_move rfl) ?_
    refine sx_pure rfl rfl rfl (px_add rfl rfl (by first | omega | (have hb := bd_getD hz (k := k) (by omega); omega))) ?_
    refine sx_pure rfl rfl rfl (px_assign rfl) ?_
    refine wl_nil ?_
    refine q_bn (q_n (k8 _ _ ?_))
    refine sx_region ?_
    refine sx_pure rfl rfl rfl (px_add rfl rfl (by first | omega | (have hb := bd_getD hz (k := k) (by omega); omega))) ?_
    refine sx_pure rfl rfl rfl (px_move rfl) ?_
    refine wl_nil ?_
    have hs1 := sum_take_succ (zs := zs) (k := k) (by omega)
    exact fun a ha => ⟨_, by omega, (k + 1), ha.sub (Sub.cons (t := 3) (look_int (t := 3) rfl (by first | omega | simp)) (.cons (t := 6) rfl (.cons (t := 7) rfl (.cons (t := 8) (look_int (t := 8) rfl (by first | omega | simp)) (.nil))))), cwl5, rfl, by omega⟩
  ·
    refine sx_exit ?_
    refine q_e (q_e (q_bx (q_n (k3 _ _ ?_))))
    refine sx_seq fun K11 k11 => ?_
    refine sx_region ?_
    refine sx_pure rfl rfl rfl (px_move rfl) ?_
    refine sx_pure rfl rfl rfl (px_assign rfl) ?_
    refine wl_nil ?_
    refine q_n (k11 _ _ ?_)
    refine sx_retc ?_
    refine sx_ret1 Try.results13 rfl ?_
    have e1 : k = zs.length := by omega
    rw [e1, List.take_length]
    exact ⟨rfl, cwl5⟩

theorem c_sWeightsOk {w : World} {va : Value} {lva uva : Nat} {zs : List Int} (hva : Sl w lva uva va (zs)) (h63 : zs.length ≤ 1048576) :
    Ret Try.prog 7 [va] w fun v w' => v = .bool (decide (WOk zs)) ∧ Chg 0 0 w w' := by
  have hva0 := hva.fit
  refine sx_enter Try.func7 rfl Try.ntmps7 (Nat.le_of_ble_eq_true rfl) ?_
  refine sx_seq fun K1 k1 => ?_
  refine sx_region ?_
  refine sx_pure rfl rfl rfl (px_assign rfl) ?_
  refine wl_nil ?_
  refine q_n (k1 _ _ ?_)
  refine sx_seq fun K2 k2 => ?_
  refine sx_seq fun K3 k3 => ?_
  refine sx_region ?_
  refine sx_pure rfl rfl rfl (px_move rfl) ?_
  refine sx_pure rfl rfl rfl (px_len rfl Try.underlying24 hva0) ?_
  refine sx_call rfl rfl Try.call11 (c_l01In) (fun v4 w4 p4 => ?_)
  obtain ⟨rfl, c4⟩ := p4
  have zw4 := c4.size
  refine sx_pure rfl rfl rfl (px_notP rfl) ?_
  refine wl_nil ?_
  refine q_n (k3 _ _ ?_)
  refine sx_condP rfl (fun h15 => ?_) (fun h15 => ?_)
  ·
    refine sx_seq fun K5 k5 => ?_
    refine sx_region ?_
    refine sx_pure rfl rfl rfl (px_assign rfl) ?_
    refine wl_nil ?_
    refine q_n (k5 _ _ ?_)
    refine sx_retc ?_
    refine q_r (sx_ret1 Try.results7 rfl ?_)
    exact ⟨bFalse (fun h => by have h1 := h.1; have h2 := h.2.1; omega), c4⟩
  ·
    refine sx_skip ?_
    refine q_n (k2 _ _ ?_)
    refine sx_seq fun K6 k6 => ?_
    refine sx_seq fun K7 k7 => ?_
    refine sx_region ?_
    refine sx_pure rfl rfl rfl (px_move rfl) ?_
    have f8 := hva0.ext c4
    refine sx_pure rfl rfl rfl (px_len rfl Try.underlying24 f8) ?_
    refine sx_pure rfl rfl rfl (px_move rfl) ?_
    refine wl_nil ?_
    refine q_n (k7 _ _ ?_)
    refine sx_block ?_
    refine sx_loop (fun mm aa w' => ∃ (k : Nat), Agr 22 [(0, va), (9, va), (10, .int .i64 ↑zs.length), (11, .int .i64 ↑k)] aa ∧ Chg 0 0 w4 w' ∧ (mm = zs.length - k) ∧ (k ≤ zs.length) ∧ (∀ i, i < k → 0 ≤ zs.getD i 0 ∧ zs.getD i 0 ≤ 1000000000)) (_) (fun a ha => ⟨0, ha.sub (Sub.cons (t := 0) rfl (.cons (t := 9) rfl (.cons (t := 10) (look_int (t := 10) rfl (by first | omega | simp)) (.cons (t := 11) (look_int (t := 11) rfl (by first | omega | simp)) (.nil))))), Chg.refl _ _ _, rfl, by omega, fun i h => by omega⟩) ?_
    rintro mm aa wl9 ⟨k, hAwl9, cwl9, hm, hk, hall⟩
    refine (show cw Try.prog 22 _ _ _ wl9 from ?_) aa hAwl9
    clear hAwl9
    have zwl9 := cwl9.size
    refine sx_seq fun K10 k10 => ?_
    refine sx_region ?_
    refine sx_pure rfl rfl rfl (px_lt rfl rfl) ?_
    refine wl_nil ?_
    refine q_n (k10 _ _ ?_)
    refine sx_seq fun K11 k11 => ?_
    refine sx_condP rfl (fun h18 => ?_) (fun h18 => ?_)
    ·
      refine sx_skip ?_
      refine q_n (k11 _ _ ?_)
      refine sx_seq fun K12 k12 => ?_
      refine sx_block ?_
      refine sx_seq fun K13 k13 => ?_
      refine sx_region ?_
      have f14 := f8.ext cwl9
      refine sx_pure rfl rfl rfl (px_index1 (j := k) rfl rfl (by omega) Try.underlying24 Try.sizeOf3 f14 (by omega)) ?_
      refine sx_pure rfl rfl rfl (px_load rfl (f14.load1 (at_int (by omega)) Try.isAgg3)) ?_
      refine sx_pure rfl rfl rfl (px_assign rfl) ?_
      refine wl_nil ?_
      refine q_n (k13 _ _ ?_)
      refine sx_seq fun K15 k15 => ?_
      refine sx_region ?_
      refine sx_pure rfl rfl rfl (px_move rfl) ?_
      refine sx_call rfl rfl Try.call11 (c_l01In) (fun v16 w16 p16 => ?_)
      obtain ⟨rfl, c16⟩ := p16
      have zw16 := c16.size
      refine sx_pure rfl rfl rfl (px_notP rfl) ?_
      refine wl_nil ?_
      refine q_n (k15 _ _ ?_)
      refine sx_condP rfl (fun h19 => ?_) (fun h19 => ?_)
      ·
        refine sx_seq fun K17 k17 => ?_
        refine sx_region ?_
        refine sx_pure rfl rfl rfl (px_assign rfl) ?_
        refine wl_nil ?_
        refine q_n (k17 _ _ ?_)
        refine sx_retc ?_
        refine q_br (q_r (q_r (q_br (q_r (sx_ret1 Try.results7 rfl ?_)))))
        have q18 := Chg.step (l := 0) (h := 0) c4 cwl9 (by omega)
        have q19 := Chg.step (l := 0) (h := 0) q18 c16 (by omega)
        exact ⟨bFalse (fun h => by have h1 := bd_getD h.2.2.1 (k := k) (by omega); omega), q19⟩
      ·
        refine sx_skip ?_
        refine q_bn (q_n (k12 _ _ ?_))
        refine sx_region ?_
        refine sx_pure rfl rfl rfl (px_add rfl rfl (by omega)) ?_
        refine sx_pure rfl rfl rfl (px_move rfl) ?_
        refine wl_nil ?_
        have q20 := Chg.step (l := 0) (h := 0) cwl9 c16 (by omega)
        exact fun a ha => ⟨_, by omega, (k + 1), ha.sub (Sub.cons (t := 0) rfl (.cons (t := 9) rfl (.cons (t := 10) rfl (.cons (t := 11) (look_int (t := 11) rfl (by first | omega | simp)) (.nil))))), q20, rfl, by omega, all_succ hall (by omega)⟩
    ·
      refine sx_exit ?_
      refine q_e (q_e (q_bx (q_n (k6 _ _ ?_))))
      refine sx_seq fun K21 k21 => ?_
      have ek : k = zs.length := by omega
      have hz : ∀ x ∈ zs, 0 ≤ x ∧ x ≤ 1000000000 := all_mem (by rw [← ek]; exact hall)
      refine sx_region ?_
      refine sx_pure rfl rfl rfl (px_move rfl) ?_
      have f22 := f8.ext cwl9
      refine sx_call rfl rfl Try.call13 (c_l12Sum f22 (by omega) (by assumption)) (fun v23 w23 p23 => ?_)
      obtain ⟨rfl, c23⟩ := p23
      have zw23 := c23.size
      refine sx_pure rfl rfl rfl (px_gt rfl rfl) ?_
      refine sx_pure rfl rfl rfl (px_assign rfl) ?_
      refine wl_nil ?_
      refine q_n (k21 _ _ ?_)
      refine sx_retc ?_
      refine sx_ret1 Try.results7 rfl ?_
      have q24 := Chg.step (l := 0) (h := 0) c4 cwl9 (by omega)
      have q25 := Chg.step (l := 0) (h := 0) q24 c23 (by omega)
      exact ⟨bIff ⟨fun h => ⟨by omega, by omega, hz, h⟩, fun h => h.2.2.2⟩, q25⟩

theorem c_iWeightsOk {w : World} {va : Value} {lva uva : Nat} {zs : List Int} (hva : Sl w lva uva va (zs)) (h63 : zs.length ≤ 1048576) :
    Ret Try.prog 9 [va] w fun v w' => v = .bool (decide (WOk zs)) ∧ Chg 0 0 w w' := by
  have hva0 := hva.fit
  refine sx_enter Try.func9 rfl Try.ntmps9 (Nat.le_of_ble_eq_true rfl) ?_
  refine sx_seq fun K1 k1 => ?_
  refine sx_region ?_
  refine sx_pure rfl rfl rfl (px_assign rfl) ?_
  refine wl_nil ?_
  refine q_n (k1 _ _ ?_)
  refine sx_seq fun K2 k2 => ?_
  refine sx_seq fun K3 k3 => ?_
  refine sx_region ?_
  refine sx_pure rfl rfl rfl (px_move rfl) ?_
  refine sx_pure rfl rfl rfl (px_len rfl Try.underlying24 hva0) ?_
  refine sx_pure rfl rfl rfl (px_lt rfl rfl) ?_
  refine sx_pure rfl rfl rfl (px_move rfl) ?_
  refine sx_tmpP (t := 9) rfl (fun h16 => ?_) (fun h16 => ?_)
  ·
    refine sx_guardF rfl rfl rfl rfl rfl rfl ?_
    refine sx_guardF rfl rfl rfl rfl rfl rfl ?_
    refine sx_guardF rfl rfl rfl rfl rfl rfl ?_
    refine sx_pure rfl rfl rfl (px_pick rfl rfl) ?_
    refine wl_nil ?_
    refine q_n (k3 _ _ ?_)
    refine sx_condT rfl ?_
    refine sx_seq fun K4 k4 => ?_
    refine sx_region ?_
    refine sx_pure rfl rfl rfl (px_assign rfl) ?_
    refine wl_nil ?_
    refine q_n (k4 _ _ ?_)
    refine sx_retc ?_
    refine q_r (sx_ret1 Try.results9 rfl ?_)
    exact ⟨bFalse (fun h => by have h1 := h.1; have h2 := h.2.1; omega), (Chg.refl 0 0 _)⟩
  ·
    refine sx_guardT rfl rfl rfl ?_
    refine sx_pure rfl rfl rfl (px_move rfl) ?_
    refine sx_guardT rfl rfl rfl ?_
    refine sx_pure rfl rfl rfl (px_len rfl Try.underlying24 hva0) ?_
    refine sx_guardT rfl rfl rfl ?_
    refine sx_pure rfl rfl rfl (px_gt rfl rfl) ?_
    refine sx_pure rfl rfl rfl (px_pick rfl rfl) ?_
    refine wl_nil ?_
    refine q_n (k3 _ _ ?_)
    refine sx_condP rfl (fun h16_1 => ?_) (fun h16_1 => ?_)
    ·
      refine sx_seq fun K5 k5 => ?_
      refine sx_region ?_
      refine sx_pure rfl rfl rfl (px_assign rfl) ?_
      refine wl_nil ?_
      refine q_n (k5 _ _ ?_)
      refine sx_retc ?_
      refine q_r (sx_ret1 Try.results9 rfl ?_)
      exact ⟨bFalse (fun h => by have h1 := h.1; have h2 := h.2.1; omega), (Chg.refl 0 0 _)⟩
    ·
      refine sx_skip ?_
      refine q_n (k2 _ _ ?_)
      refine sx_seq fun K6 k6 => ?_
      refine sx_region ?_
      refine sx_pure rfl rfl rfl (px_assign rfl) ?_
      refine wl_nil ?_
      refine q_n (k6 _ _ ?_)
      refine sx_seq fun K7 k7 => ?_
      refine sx_seq fun K8 k8 => ?_
      refine sx_region ?_
      refine sx_pure rfl rfl rfl (px_move rfl) ?_
      refine sx_pure rfl rfl rfl (px_len rfl Try.underlying24 hva0) ?_
      refine sx_pure rfl rfl rfl (px_move rfl) ?_
      refine wl_nil ?_
      refine q_n (k8 _ _ ?_)
      refine sx_block ?_
      refine sx_loop (fun mm aa w' => ∃ (k : Nat), Agr 32 [(3, .int .i64 ((zs.take k).sum)), (14, va), (15, .int .i64 ↑zs.length), (16, .int .i64 ↑k)] aa ∧ Chg 0 0 w w' ∧ (mm = zs.length - k) ∧ (k ≤ zs.length) ∧ (∀ i, i < k → 0 ≤ zs.getD i 0 ∧ zs.getD i 0 ≤ 1000000000) ∧ (0 ≤ (zs.take k).sum ∧ (zs.take k).sum ≤ k * 1000000000)) (_) (fun a ha => ⟨0, ha.sub (Sub.cons (t := 3) (look_int (t := 3) rfl (by first | omega | simp)) (.cons (t := 14) rfl (.cons (t := 15) (look_int (t := 15) rfl (by first | omega | simp)) (.cons (t := 16) (look_int (t := 16) rfl (by first | omega | simp)) (.nil))))), Chg.refl _ _ _, rfl, by omega, fun i h => by omega, by simp⟩) ?_
      rintro mm aa wl9 ⟨k, hAwl9, cwl9, hm, hk, hall, hs⟩
      refine (show cw Try.prog 32 _ _ _ wl9 from ?_) aa hAwl9
      clear hAwl9
      have zwl9 := cwl9.size
      refine sx_seq fun K10 k10 => ?_
      refine sx_region ?_
      refine sx_pure rfl rfl rfl (px_lt rfl rfl) ?_
      refine wl_nil ?_
      refine q_n (k10 _ _ ?_)
      refine sx_seq fun K11 k11 => ?_
      refine sx_condP rfl (fun h20 => ?_) (fun h20 => ?_)
      ·
        refine sx_skip ?_
        refine q_n (k11 _ _ ?_)
        refine sx_seq fun K12 k12 => ?_
        refine sx_block ?_
        refine sx_seq fun K13 k13 => ?_
        refine sx_region ?_
        have f14 := hva0.ext cwl9
        refine sx_pure rfl rfl rfl (px_index1 (j := k) rfl rfl (by omega) Try.underlying24 Try.sizeOf3 f14 (by omega)) ?_
        refine sx_pure rfl rfl rfl (px_load rfl (f14.load1 (at_int (by omega)) Try.isAgg3)) ?_
        refine sx_pure rfl rfl rfl (px_assign rfl) ?_
        refine wl_nil ?_
        refine q_n (k13 _ _ ?_)
        refine sx_seq fun K15 k15 => ?_
        refine sx_seq fun K16 k16 => ?_
        refine sx_region ?_
        refine sx_pure rfl rfl rfl (px_move rfl) ?_
        refine sx_pure rfl rfl rfl (px_lt rfl rfl) ?_
        refine sx_pure rfl rfl rfl (px_move rfl) ?_
        refine sx_tmpP (t := 22) rfl (fun h21 => ?_) (fun h21 => ?_)
        ·
          refine sx_guardF rfl rfl rfl rfl rfl rfl ?_
          refine sx_guardF rfl rfl rfl rfl rfl rfl ?_
          refine sx_pure rfl rfl rfl (px_pick rfl rfl) ?_
          refine wl_nil ?_
          refine q_n (k16 _ _ ?_)
          refine sx_condT rfl ?_
          refine sx_seq fun K17 k17 => ?_
          refine sx_region ?_
          refine sx_pure rfl rfl rfl (px_assign rfl) ?_
          refine wl_nil ?_
          refine q_n (k17 _ _ ?_)
          refine sx_sub (Sub.cons (t := 2) rfl (.cons (t := 3) rfl (.cons (t := 5) rfl (.cons (t := 14) rfl (.cons (t := 15) rfl (.cons (t := 16) rfl (.nil))))))) ?_
          refine sx_retc ?_
          refine q_r (q_br (q_r (q_r (q_br (q_r (sx_ret1 Try.results9 rfl ?_))))))
          exact ⟨bFalse (fun h => by have h1 := bd_getD h.2.2.1 (k := k) (by omega); omega), cwl9⟩
        ·
          refine sx_guardT rfl rfl rfl ?_
          refine sx_pure rfl rfl rfl (px_move rfl) ?_
          refine sx_guardT rfl rfl rfl ?_
          refine sx_pure rfl rfl rfl (px_gt rfl rfl) ?_
          refine sx_pure rfl rfl rfl (px_pick rfl rfl) ?_
          refine wl_nil ?_
          refine q_n (k16 _ _ ?_)
          refine sx_condP rfl (fun h21_1 => ?_) (fun h21_1 => ?_)
          ·
            refine sx_seq fun K18 k18 => ?_
            refine sx_region ?_
            refine sx_pure rfl rfl rfl (px_assign rfl) ?_
            refine wl_nil ?_
            refine q_n (k18 _ _ ?_)
            refine sx_sub (Sub.cons (t := 2) rfl (.cons (t := 3) rfl (.cons (t := 5) rfl (.cons (t := 14) rfl (.cons (t := 15) rfl (.cons (t := 16) rfl (.nil))))))) ?_
            refine sx_retc ?_
            refine q_r (q_br (q_r (q_r (q_br (q_r (sx_ret1 Try.results9 rfl ?_))))))
            exact ⟨bFalse (fun h => by have h1 := bd_getD h.2.2.1 (k := k) (by omega); omega), cwl9⟩
          ·
            refine sx_skip ?_
            refine q_n (k15 _ _ ?_)
            refine sx_region ?_
            refine sx_pure rfl rfl rfl (px_move rfl) ?_
            refine sx_pure rfl rfl rfl (px_move rfl) ?_
            refine sx_pure rfl rfl rfl (px_add rfl rfl (by omega)) ?_
            refine sx_pure rfl rfl rfl (px_assign rfl) ?_
            refine wl_nil ?_
            refine q_bn (q_n (k12 _ _ ?_))
            refine sx_sub (Sub.cons (t := 3) rfl (.cons (t := 14) rfl (.cons (t := 15) rfl (.cons (t := 16) rfl (.nil))))) ?_
            refine sx_region ?_
            refine sx_pure rfl rfl rfl (px_add rfl rfl (by omega)) ?_
            refine sx_pure rfl rfl rfl (px_move rfl) ?_
            refine wl_nil ?_
            have hs1 := sum_take_succ (zs := zs) (k := k) (by omega)
            exact fun a ha => ⟨_, by omega, (k + 1), ha.sub (Sub.cons (t := 3) (look_int (t := 3) rfl (by first | omega | simp)) (.cons (t := 14) rfl (.cons (t := 15) rfl (.cons (t := 16) (look_int (t := 16) rfl (by first | omega | simp)) (.nil))))), cwl9, rfl, by omega, all_succ hall (by omega), by omega⟩
      ·
        refine sx_exit ?_
        refine q_e (q_e (q_bx (q_n (k7 _ _ ?_))))
        refine sx_seq fun K19 k19 => ?_
        refine sx_region ?_
        refine sx_pure rfl rfl rfl (px_move rfl) ?_
        refine sx_pure rfl rfl rfl (px_gt rfl rfl) ?_
        refine sx_pure rfl rfl rfl (px_assign rfl) ?_
        refine wl_nil ?_
        refine q_n (k19 _ _ ?_)
        refine sx_retc ?_
        refine sx_ret1 Try.results9 rfl ?_
        have ek : k = zs.length := by omega
        have hz : ∀ x ∈ zs, 0 ≤ x ∧ x ≤ 1000000000 := all_mem (by rw [← ek]; exact hall)
        rw [ek, List.take_length]
        exact ⟨bIff ⟨fun h => ⟨by omega, by omega, hz, h⟩, fun h => h.2.2.2⟩, cwl9⟩

theorem c_nameAt {w : World} {n : Int} {vl : Value} {lvl uvl : Nat} {ss : List ByteArray} (hvl : SlS w lvl uvl vl (ss)) (h63 : ss.length ≤ 1048576) :
    Ret Try.prog 12 [.int .i64 n, vl] w fun v w' => v = .string (nameL n ss) ∧ Chg 0 0 w w' := by
  have hvl0 := hvl.fit
  refine sx_enter Try.func12 rfl Try.ntmps12 (Nat.le_of_ble_eq_true rfl) ?_
  refine sx_seq fun K1 k1 => ?_
  refine sx_region ?_
  refine sx_pure rfl rfl rfl (px_assign rfl) ?_
  refine wl_nil ?_
  refine q_n (k1 _ _ ?_)
  refine sx_seq fun K2 k2 => ?_
  refine sx_seq fun K3 k3 => ?_
  refine sx_region ?_
  refine sx_pure rfl rfl rfl (px_move rfl) ?_
  refine sx_pure rfl rfl rfl (px_lt rfl rfl) ?_
  refine sx_pure rfl rfl rfl (px_move rfl) ?_
  refine sx_tmpP (t := 7) rfl (fun h115 => ?_) (fun h115 => ?_)
  ·
    refine sx_guardF rfl rfl rfl rfl rfl rfl ?_
    refine sx_guardF rfl rfl rfl rfl rfl rfl ?_
    refine sx_guardF rfl rfl rfl rfl rfl rfl ?_
    refine sx_guardF rfl rfl rfl rfl rfl rfl ?_
    refine sx_pure rfl rfl rfl (px_pick rfl rfl) ?_
    refine wl_nil ?_
    refine q_n (k3 _ _ ?_)
    refine sx_condT rfl ?_
    refine sx_seq fun K4 k4 => ?_
    refine sx_region ?_
    refine sx_pure rfl rfl rfl (px_assign rfl) ?_
    refine wl_nil ?_
    refine q_n (k4 _ _ ?_)
    refine sx_retc ?_
    refine q_r (sx_ret1 Try.results12 rfl ?_)
    exact ⟨congrArg Value.string (nameL_out (by omega)).symm, (Chg.refl 0 0 _)⟩
  ·
    refine sx_guardT rfl rfl rfl ?_
    refine sx_pure rfl rfl rfl (px_move rfl) ?_
    refine sx_guardT rfl rfl rfl ?_
    refine sx_pure rfl rfl rfl (px_move rfl) ?_
    refine sx_guardT rfl rfl rfl ?_
    refine sx_pure rfl rfl rfl (px_len rfl Try.underlying29 hvl0) ?_
    refine sx_guardT rfl rfl rfl ?_
    refine sx_pure rfl rfl rfl (px_ge rfl rfl) ?_
    refine sx_pure rfl rfl rfl (px_pick rfl rfl) ?_
    refine wl_nil ?_
    refine q_n (k3 _ _ ?_)
    refine sx_condP rfl (fun h115_1 => ?_) (fun h115_1 => ?_)
    ·
      refine sx_seq fun K5 k5 => ?_
      refine sx_region ?_
      refine sx_pure rfl rfl rfl (px_assign rfl) ?_
      refine wl_nil ?_
      refine q_n (k5 _ _ ?_)
      refine sx_retc ?_
      refine q_r (sx_ret1 Try.results12 rfl ?_)
      exact ⟨congrArg Value.string (nameL_out (by omega)).symm, (Chg.refl 0 0 _)⟩
    ·
      refine sx_skip ?_
      refine q_n (k2 _ _ ?_)
      refine sx_seq fun K6 k6 => ?_
      refine sx_region ?_
      refine sx_pure rfl rfl rfl (px_move rfl) ?_
      refine sx_pure rfl rfl rfl (px_move rfl) ?_
      refine sx_pure rfl rfl rfl (px_index1 (j := n.toNat) rfl rfl (by omega) Try.underlying29 Try.sizeOf9 hvl0 (by omega)) ?_
      refine sx_pure rfl rfl rfl (px_load rfl (hvl0.load1 (at_str (by omega)) Try.isAgg9)) ?_
      refine sx_pure rfl rfl rfl (px_assign rfl) ?_
      refine wl_nil ?_
      refine q_n (k6 _ _ ?_)
      refine sx_sub (Sub.cons (t := 4) rfl (.nil)) ?_
      refine sx_retc ?_
      refine sx_ret1 Try.results12 rfl ?_
      exact ⟨congrArg Value.string (nameL_in (by omega) (by omega)).symm, (Chg.refl 0 0 _)⟩

theorem c_iCvName {w : World} {n : Int} :
    Ret Try.prog 6 [.int .i64 n] w fun v w' => v = .string (nameL n [⟨#[111, 107]⟩, ⟨#[109, 111, 110, 101, 121]⟩, ⟨#[114, 97, 116, 101]⟩, ⟨#[108, 97, 114, 103, 101]⟩]) ∧ Chg 0 0 w w' := by
  refine sx_enter Try.func6 rfl Try.ntmps6 (Nat.le_of_ble_eq_true rfl) ?_
  refine sx_seq fun K1 k1 => ?_
  refine sx_region ?_
  refine sx_pure rfl rfl rfl (px_assign rfl) ?_
  refine wl_nil ?_
  refine q_n (k1 _ _ ?_)
  refine sx_seq fun K2 k2 => ?_
  refine sx_region ?_
  refine sx_pure rfl rfl rfl (px_move rfl) ?_
  refine sx_lit4 rfl xelt29 rfl rfl rfl rfl rfl rfl rfl rfl (fun s3 ws3 ss3 fs3 cs3 => ?_)
  have ns3 := Own.norm (f := Value.string) (zs := [⟨#[111, 107]⟩, ⟨#[109, 111, 110, 101, 121]⟩, ⟨#[114, 97, 116, 101]⟩, ⟨#[108, 97, 114, 103, 101]⟩]) fs3
  have zws3 := cs3.size
  refine sx_call rfl rfl Try.call12 (c_nameAt ns3.sv (by simp)) (fun v4 w4 p4 => ?_)
  obtain ⟨rfl, c4⟩ := p4
  have zw4 := c4.size
  refine sx_pure rfl rfl rfl (px_assign rfl) ?_
  refine wl_nil ?_
  refine q_n (k2 _ _ ?_)
  refine sx_retc ?_
  refine sx_ret1 Try.results6 rfl ?_
  have q5 := Chg.step (l := 0) (h := 0) cs3 c4 (by omega)
  exact ⟨rfl, q5⟩

theorem c_sCvName {w : World} {n : Int} :
    Ret Try.prog 5 [.int .i64 n] w fun v w' => v = .string (nameL n [⟨#[111, 107]⟩, ⟨#[109, 111, 110, 101, 121]⟩, ⟨#[114, 97, 116, 101]⟩, ⟨#[108, 97, 114, 103, 101]⟩]) ∧ Chg 0 0 w w' := by
  refine sx_enter Try.func5 rfl Try.ntmps5 (Nat.le_of_ble_eq_true rfl) ?_
  refine sx_seq fun K1 k1 => ?_
  refine sx_region ?_
  refine sx_pure rfl rfl rfl (px_assign rfl) ?_
  refine wl_nil ?_
  refine q_n (k1 _ _ ?_)
  refine sx_seq fun K2 k2 => ?_
  refine sx_seq fun K3 k3 => ?_
  refine sx_region ?_
  refine sx_pure rfl rfl rfl (px_move rfl) ?_
  refine sx_call rfl rfl Try.call11 (c_l01In) (fun v4 w4 p4 => ?_)
  obtain ⟨rfl, c4⟩ := p4
  have zw4 := c4.size
  refine sx_pure rfl rfl rfl (px_notP rfl) ?_
  refine wl_nil ?_
  refine q_n (k3 _ _ ?_)
  refine sx_condP rfl (fun h90 => ?_) (fun h90 => ?_)
  ·
    refine sx_seq fun K5 k5 => ?_
    refine sx_region ?_
    refine sx_pure rfl rfl rfl (px_assign rfl) ?_
    refine wl_nil ?_
    refine q_n (k5 _ _ ?_)
    refine sx_retc ?_
    refine q_r (sx_ret1 Try.results5 rfl ?_)
    exact ⟨congrArg Value.string (nameL_out (by simp only [List.length_cons, List.length_nil]; omega)).symm, c4⟩
  ·
    refine sx_skip ?_
    refine q_n (k2 _ _ ?_)
    refine sx_seq fun K6 k6 => ?_
    refine sx_region ?_
    refine sx_lit4 rfl xelt29 rfl rfl rfl rfl rfl rfl rfl rfl (fun s7 ws7 ss7 fs7 cs7 => ?_)
    have ns7 := Own.norm (f := Value.string) (zs := [⟨#[111, 107]⟩, ⟨#[109, 111, 110, 101, 121]⟩, ⟨#[114, 97, 116, 101]⟩, ⟨#[108, 97, 114, 103, 101]⟩]) fs7
    have zws7 := cs7.size
    refine sx_pure rfl rfl rfl (px_move rfl) ?_
    refine sx_pure rfl rfl rfl (px_index1 (j := n.toNat) rfl rfl (by omega) Try.underlying29 Try.sizeOf9 ns7.sv (by simp only [List.length_cons, List.length_nil]; omega)) ?_
    refine sx_pure rfl rfl rfl (px_load rfl (ns7.sv.load1 (at_str (by simp only [List.length_cons, List.length_nil]; omega)) Try.isAgg9)) ?_
    refine sx_pure rfl rfl rfl (px_assign rfl) ?_
    refine wl_nil ?_
    refine q_n (k6 _ _ ?_)
    refine sx_retc ?_
    refine sx_ret1 Try.results5 rfl ?_
    have q8 := Chg.step (l := 0) (h := 0) c4 cs7 (by omega)
    exact ⟨congrArg Value.string (nameL_in (by omega) (by simp only [List.length_cons, List.length_nil]; omega)).symm, q8⟩

theorem law_CvName {w : World} {n : Int} :
    Ret Try.prog 3 [.int .i64 n] w fun v w' => v = .bool (true) ∧ Chg 0 0 w w' := by
  refine sx_enter Try.func3 rfl Try.ntmps3 (Nat.le_of_ble_eq_true rfl) ?_
  refine sx_seq fun K1 k1 => ?_
  refine sx_region ?_
  refine sx_pure rfl rfl rfl (px_assign rfl) ?_
  refine wl_nil ?_
  refine q_n (k1 _ _ ?_)
  refine sx_seq fun K2 k2 => ?_
  refine sx_region ?_
  refine sx_pure rfl rfl rfl (px_move rfl) ?_
  refine sx_call rfl rfl Try.call5 (c_sCvName) (fun v3 w3 p3 => ?_)
  obtain ⟨rfl, c3⟩ := p3
  have zw3 := c3.size
  refine sx_pure rfl rfl rfl (px_assign rfl) ?_
  refine wl_nil ?_
  refine q_n (k2 _ _ ?_)
  refine sx_seq fun K4 k4 => ?_
  refine sx_region ?_
  refine sx_pure rfl rfl rfl (px_move rfl) ?_
  refine sx_call rfl rfl Try.call6 (c_iCvName) (fun v5 w5 p5 => ?_)
  obtain ⟨rfl, c5⟩ := p5
  have zw5 := c5.size
  refine sx_pure rfl rfl rfl (px_assign rfl) ?_
  refine wl_nil ?_
  refine q_n (k4 _ _ ?_)
  refine sx_seq fun K6 k6 => ?_
  refine sx_seq fun K7 k7 => ?_
  refine sx_region ?_
  refine sx_pure rfl rfl rfl (px_move rfl) ?_
  refine sx_pure rfl rfl rfl (px_move rfl) ?_
  refine sx_pure rfl rfl rfl (px_neS rfl rfl) ?_
  refine wl_nil ?_
  refine q_n (k7 _ _ ?_)
  have h5976 : ¬ (nameL n [⟨#[111, 107]⟩, ⟨#[109, 111, 110, 101, 121]⟩, ⟨#[114, 97, 116, 101]⟩, ⟨#[108, 97, 114, 103, 101]⟩] ≠ nameL n [⟨#[111, 107]⟩, ⟨#[109, 111, 110, 101, 121]⟩, ⟨#[114, 97, 116, 101]⟩, ⟨#[108, 97, 114, 103, 101]⟩]) := by simp
  refine sx_condPF rfl h5976 ?_
  refine sx_skip ?_
  refine q_n (k6 _ _ ?_)
  refine sx_seq fun K8 k8 => ?_
  refine sx_region ?_
  refine sx_pure rfl rfl rfl (px_assign rfl) ?_
  refine wl_nil ?_
  refine q_n (k8 _ _ ?_)
  refine sx_retc ?_
  refine sx_ret1 Try.results3 rfl ?_
  have q9 := Chg.step (l := 0) (h := 0) c3 c5 (by omega)
  exact ⟨rfl, q9⟩

theorem law_WeightsOk {w : World} {va : Value} {lva uva : Nat} {zs : List Int} (hva : Sl w lva uva va (zs)) (h63 : zs.length ≤ 9223372036854775807) :
    Ret Try.prog 4 [va] w fun v w' => v = .bool (true) ∧ Chg 0 0 w w' := by
  have hva0 := hva.fit
  refine sx_enter Try.func4 rfl Try.ntmps4 (Nat.le_of_ble_eq_true rfl) ?_
  refine sx_seq fun K1 k1 => ?_
  refine sx_region ?_
  refine sx_pure rfl rfl rfl (px_assign rfl) ?_
  refine wl_nil ?_
  refine q_n (k1 _ _ ?_)
  refine sx_seq fun K2 k2 => ?_
  refine sx_seq fun K3 k3 => ?_
  refine sx_region ?_
  refine sx_pure rfl rfl rfl (px_move rfl) ?_
  refine sx_pure rfl rfl rfl (px_len rfl Try.underlying24 hva0) ?_
  refine sx_pure rfl rfl rfl (px_gt rfl rfl) ?_
  refine wl_nil ?_
  refine q_n (k3 _ _ ?_)
  refine sx_condP rfl (fun h5984 => ?_) (fun h5984 => ?_)
  ·
    refine sx_seq fun K4 k4 => ?_
    refine sx_region ?_
    refine sx_pure rfl rfl rfl (px_assign rfl) ?_
    refine wl_nil ?_
    refine q_n (k4 _ _ ?_)
    refine sx_retc ?_
    refine q_r (sx_ret1 Try.results4 rfl ?_)
    exact ⟨rfl, (Chg.refl 0 0 _)⟩
  ·
    refine sx_skip ?_
    refine q_n (k2 _ _ ?_)
    refine sx_seq fun K5 k5 => ?_
    refine sx_region ?_
    refine sx_pure rfl rfl rfl (px_move rfl) ?_
    refine sx_call rfl rfl Try.call8 (c_toIntS hva0 (by omega)) (fun v6 w6 p6 => ?_)
    obtain ⟨s6, rfl, os_6, c6⟩ := p6
    have zw6 := c6.size
    refine sx_call rfl rfl Try.call7 (c_sWeightsOk os_6.sv (by omega)) (fun v7 w7 p7 => ?_)
    obtain ⟨rfl, c7⟩ := p7
    have zw7 := c7.size
    refine sx_pure rfl rfl rfl (px_assign rfl) ?_
    refine wl_nil ?_
    refine q_n (k5 _ _ ?_)
    refine sx_seq fun K8 k8 => ?_
    refine sx_region ?_
    refine sx_pure rfl rfl rfl (px_move rfl) ?_
    have f9 := hva0.ext c6
    have f10 := f9.ext c7
    refine sx_call rfl rfl Try.call8 (c_toIntS f10 (by omega)) (fun v11 w11 p11 => ?_)
    obtain ⟨s11, rfl, os_11, c11⟩ := p11
    have zw11 := c11.size
    refine sx_pure rfl rfl rfl (px_assign rfl) ?_
    refine wl_nil ?_
    refine q_n (k8 _ _ ?_)
    refine sx_seq fun K12 k12 => ?_
    refine sx_region ?_
    refine sx_pure rfl rfl rfl (px_move rfl) ?_
    refine sx_call rfl rfl Try.call9 (c_iWeightsOk os_11.sv (by omega)) (fun v13 w13 p13 => ?_)
    obtain ⟨rfl, c13⟩ := p13
    have zw13 := c13.size
    refine sx_pure rfl rfl rfl (px_assign rfl) ?_
    refine wl_nil ?_
    refine q_n (k12 _ _ ?_)
    refine sx_sub (Sub.cons (t := 0) rfl (.cons (t := 2) rfl (.cons (t := 3) rfl (.cons (t := 4) rfl (.cons (t := 5) rfl (.nil)))))) ?_
    refine sx_seq fun K14 k14 => ?_
    refine sx_seq fun K15 k15 => ?_
    refine sx_region ?_
    refine sx_pure rfl rfl rfl (px_move rfl) ?_
    refine sx_pure rfl rfl rfl (px_move rfl) ?_
    refine sx_pure rfl rfl rfl (px_neB Try.underlying4 rfl rfl) ?_
    refine wl_nil ?_
    refine q_n (k15 _ _ ?_)
    have h5990 : ((decide (WOk zs)) != (decide (WOk zs))) = false := by simp
    refine sx_condBF rfl h5990 ?_
    refine sx_skip ?_
    refine q_n (k14 _ _ ?_)
    refine sx_seq fun K16 k16 => ?_
    refine sx_seq fun K17 k17 => ?_
    refine sx_region ?_
    refine sx_pure rfl rfl rfl (px_move rfl) ?_
    refine sx_pure rfl rfl rfl (px_move rfl) ?_
    have f18 := f10.ext c11
    have f19 := f18.ext c13
    refine sx_call rfl rfl Try.call8 (c_toIntS f19 (by omega)) (fun v20 w20 p20 => ?_)
    obtain ⟨s20, rfl, os_20, c20⟩ := p20
    have zw20 := c20.size
    have f21 := os_11.ext c13
    have f22 := f21.ext c20
    refine sx_call rfl rfl Try.call10 (c_eqIntS f22.sv os_20.sv (by omega)) (fun v23 w23 p23 => ?_)
    obtain ⟨rfl, c23⟩ := p23
    have zw23 := c23.size
    refine sx_pure rfl rfl rfl (px_notP rfl) ?_
    refine wl_nil ?_
    refine q_n (k17 _ _ ?_)
    have h5993 : ¬ (¬ (zs = zs)) := by simp
    refine sx_condPF rfl h5993 ?_
    refine sx_skip ?_
    refine q_n (k16 _ _ ?_)
    refine sx_seq fun K24 k24 => ?_
    refine sx_region ?_
    refine sx_pure rfl rfl rfl (px_assign rfl) ?_
    refine wl_nil ?_
    refine q_n (k24 _ _ ?_)
    refine sx_retc ?_
    refine sx_ret1 Try.results4 rfl ?_
    have q25 := Chg.step (l := 0) (h := 0) c6 c7 (by omega)
    have q26 := Chg.step (l := 0) (h := 0) q25 c11 (by omega)
    have q27 := Chg.step (l := 0) (h := 0) q26 c13 (by omega)
    have q28 := Chg.step (l := 0) (h := 0) q27 c20 (by omega)
    have q29 := Chg.step (l := 0) (h := 0) q28 c23 (by omega)
    exact ⟨rfl, q29⟩

end Go.Proofs.Yteaodpobfldpfaa
