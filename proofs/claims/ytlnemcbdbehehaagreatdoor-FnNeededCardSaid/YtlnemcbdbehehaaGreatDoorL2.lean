/- Contracts of functions of the program: what each call returns, and that it changes nothing that was. Conditions: as each says. -/
import Derived.Test.YtlnemcbdbehehaaGreatDoorTy
import Derived.Test.YtlnemcbdbehehaaGreatDoorNatP
import Derived.Test.YtlnemcbdbehehaaGreatDoorSxD
import Derived.Test.YtlnemcbdbehehaaGreatDoorPair
import Derived.Test.YtlnemcbdbehehaaGreatDoorSxW
import Derived.Test.YtlnemcbdbehehaaGreatDoorNatS
import Derived.Test.YtlnemcbdbehehaaGreatDoorSxG
import Derived.Test.YtlnemcbdbehehaaGreatDoorNatT
import Derived.Test.YtlnemcbdbehehaaGreatDoorSxP
import Derived.Test.YtlnemcbdbehehaaGreatDoorRm
import Derived.Test.YtlnemcbdbehehaaGreatDoorL1
set_option linter.unusedVariables false
set_option linter.unusedSimpArgs false
namespace Go.Proofs.YtlnemcbdbehehaaGreatDoor
open Go Go.RowKit
set_option maxRecDepth 100000
theorem c_addBack {w : World} {va : Value} {lva uva : Nat} {preva sufva : List Value} {zs : List Int} {vb : Value} {lvb uvb : Nat} {ys : List Int} (hva : Win w lva uva va intT preva sufva zs) (hvb : Sl w lvb uvb vb (ys)) (hd : uvb ≤ lva ∨ uva ≤ lvb) (hzl : zs.length = ys.length + 1) (hz : Lm (zs.take ys.length)) (hy : Lm ys) (ht : -1000000000 ≤ zs.getD ys.length 0 ∧ zs.getD ys.length 0 ≤ 1000000000) (h63 : zs.length ≤ 1000) :
  Ret Tryz.prog 98 [va, vb] w fun v w' => ∃ os, v = .tuple #[] ∧ Win w' lva uva va intT preva sufva (os) ∧ ((os).length = (zs).length ∧ Lm ((os).take (ys).length) ∧ ((vl ((os).take (ys).length) : Nat) : Int) + ((Bs ^ (ys).length : Nat) : Int) * (os).getD (ys).length 0 = ((vl ((zs).take (ys).length) : Nat) : Int) + ((Bs ^ (ys).length : Nat) : Int) * (zs).getD (ys).length 0 + ((vl ys : Nat) : Int)) ∧ Chg lva uva w w' := by
 refine sx_enter Tryz.func98 rfl Tryz.ntmps98 (nbl rfl) ?_
 refine sx_seq fun K1 k1 => sx_region ?_
 refine av rfl rfl (wl_nil (q_n (k1 _ _ ?_)))
 refine sx_seq fun K2 k2 => ?_
 refine sx_seq fun K3 k3 => sx_region ?_
 refine mv rfl rfl (sp rfl (px_len rfl Tryz.underlying28 hvb) ?_)
 refine mv rfl rfl (wl_nil (q_n (k3 _ _ ?_)))
 refine sx_block ?_
 refine sx_loop (fun mm aa w' => ∃ (k : Nat) (os : List Int) (c : Nat), Agr 38 [(0, va), (1, vb), (4, .int .i64 ((c : Nat) : Int)), (7, vb), (8, .int .i64 ↑ys.length), (9, .int .i64 ↑k)] aa ∧ Chg lva uva w w' ∧ Win w' lva uva va intT preva sufva (os) ∧ (mm = ys.length - k) ∧ (k ≤ ys.length) ∧ (os.length = zs.length) ∧ (Lm (os.take k)) ∧ (os.drop k = zs.drop k) ∧ (c ≤ 1) ∧ (vl (os.take k) + Bs ^ k * c = vl (zs.take k) + vl (ys.take k))) (_) (fun a ha => ⟨0, zs, 0, ha.sub (Sub.c 0 rfl (.c 1 rfl (.c 4 (look_int (t := 4) rfl (by first | omega | simp)) (.c 7 rfl (.c 8 (look_int (t := 8) rfl (by first | omega | simp)) (.c 9 (look_int (t := 9) rfl (by first | omega | simp)) .nil)))))), Chg.refl _ _ _, hva, rfl, by omega, rfl, Lm.nil, rfl, by omega, by simp [vl]⟩) ?_
 rintro mm aa wl4 ⟨k, os, c, hAwl4, cwl4, hs_va, hm, hk, ho, hlm, hdr, hc, hv⟩
 refine (show cw Tryz.prog 38 _ _ _ wl4 from ?_) aa hAwl4
 clear hAwl4
 have zwl4 := cwl4.size
 refine sx_seq fun K5 k5 => sx_region ?_
 refine sp rfl (px_lt rfl rfl) ?_
 refine wl_nil (q_n (k5 _ _ ?_))
 refine sx_seq fun K6 k6 => ?_
 refine sx_condP rfl (fun h73 => ?_) (fun h73 => ?_)
 ·
  have un := hz.getD k
  rw [getD_take (by omega)] at un
  have yn := hy.getD k
  have ue := getD_drop hdr
  refine sx_skip ?_
  refine q_n (k6 _ _ ?_)
  refine sx_seq fun K7 k7 => ?_
  refine sx_block ?_
  refine sx_seq fun K8 k8 => sx_region ?_
  refine mv rfl rfl ?_
  have f9 := hvb.chg cwl4 (by omega)
  refine sp rfl (px_index1 (j := k) rfl rfl (by omega) Tryz.underlying28 Tryz.sizeOf3 f9 (by first | omega | (simp only [List.length_set]; omega))) ?_
  refine sp rfl (px_load rfl (f9.load1 (at_int (by first | omega | (simp only [List.length_set]; omega))) Tryz.isAgg3)) ?_
  refine av rfl rfl (av rfl rfl (wl_nil (q_n (k8 _ _ ?_))))
  refine sx_seq fun K10 k10 => sx_region ?_
  refine mv rfl rfl (mv rfl rfl (mv rfl rfl (sp rfl (px_index1 (j := k) rfl rfl (by omega) Tryz.underlying28 Tryz.sizeOf3 hs_va.sv (by first | omega | (simp only [List.length_set]; omega))) ?_)))
  refine sp rfl (px_load rfl (hs_va.sv.load1 (at_int (by first | omega | (simp only [List.length_set]; omega))) Tryz.isAgg3)) ?_
  refine mv rfl rfl (sp rfl (px_add rfl rfl (by omega)) ?_)
  refine sp rfl (px_add rfl rfl (by omega)) ?_
  refine av rfl rfl (wl_nil (q_n (k10 _ _ ?_)))
  refine sx_sub (Sub.c 0 rfl (.c 1 rfl (.c 4 rfl (.c 5 rfl (.c 7 rfl (.c 8 rfl (.c 9 rfl .nil))))))) ?_
  refine sx_seq fun K11 k11 => sx_region ?_
  refine mv rfl rfl (mv rfl rfl (mv rfl rfl (sp rfl (px_rem rfl rfl (by omega) (by omega)) ?_)))
  refine sp rfl (px_index1 (j := k) rfl rfl (by omega) Tryz.underlying28 Tryz.sizeOf3 hs_va.sv (by first | omega | (simp only [List.length_set]; omega))) ?_
  refine sx_storeW rfl rfl hs_va (by first | omega | (simp only [List.length_set]; omega)) Tryz.sizeOf3 (fun w12 sw12 fw12 cw12 => ?_)
  have zw12 := cw12.size
  refine wl_nil (q_n (k11 _ _ ?_))
  refine sx_region ?_
  refine mv rfl rfl (sp rfl (px_quo rfl rfl (by omega) (by omega) (by omega)) ?_)
  refine av rfl rfl (wl_nil ?_)
  refine q_bn (q_n (k7 _ _ ?_))
  refine sx_region ?_
  refine sp rfl (px_add rfl rfl (by omega)) ?_
  refine mv rfl rfl (wl_nil ?_)
  have q13 := Chg.step (l := lva) (h := uva) cwl4 cw12 (by omega)
  have hnx := addb_next (ys := ys) (s := (((c : Nat) : Int) + (((os).getD k 0) + ((ys).getD k 0)))) (c := c) (by omega) hdr un.1 yn.1 (by omega) hv
  exact fun a ha => ⟨_, by omega, (k + 1), ((os).set k ((((c : Nat) : Int) + (((os).getD k 0) + ((ys).getD k 0))) % 1000000000)), ((((c : Nat) : Int) + (((os).getD k 0) + ((ys).getD k 0))) / 1000000000).toNat, ha.sub (Sub.c 0 rfl (.c 1 rfl (.c 4 (look_int (t := 4) rfl (by first | omega | simp)) (.c 7 rfl (.c 8 rfl (.c 9 (look_int (t := 9) rfl (by first | omega | simp)) .nil)))))), q13, (fw12.mono (by omega) (by omega)), rfl, by omega, by rw [List.length_set]; exact ho, Lm_take_set hlm (by omega) (by omega) (by omega), drop_set_succ hdr, by omega, hnx⟩
 refine sx_exit ?_
 refine q_e (q_e (q_bx (q_n (k2 _ _ ?_))))
 have ek : k = ys.length := by omega
 subst ek
 have ue := getD_drop hdr
 refine sx_region ?_
 refine mv rfl rfl (mv rfl rfl ?_)
 have f14 := hvb.chg cwl4 (by omega)
 refine sp rfl (px_len rfl Tryz.underlying28 f14) ?_
 refine sp rfl (px_index1 (j := (ys).length) rfl rfl (by omega) Tryz.underlying28 Tryz.sizeOf3 hs_va.sv (by first | omega | (simp only [List.length_set]; omega))) ?_
 refine sp rfl (px_load rfl (hs_va.sv.load1 (at_int (by first | omega | (simp only [List.length_set]; omega))) Tryz.isAgg3)) ?_
 refine mv rfl rfl (sp rfl (px_add rfl rfl (by omega)) ?_)
 refine sp rfl (px_index1 (j := (ys).length) rfl rfl (by omega) Tryz.underlying28 Tryz.sizeOf3 hs_va.sv (by first | omega | (simp only [List.length_set]; omega))) ?_
 refine sx_storeW rfl rfl hs_va (by first | omega | (simp only [List.length_set]; omega)) Tryz.sizeOf3 (fun w15 sw15 fw15 cw15 => ?_)
 have zw15 := cw15.size
 refine wl_nil ?_
 refine sx_end0 rfl ?_
 have he := addb_end (ys := ys) (by omega) rfl hdr hv
 have q16 := Chg.step (l := lva) (h := uva) cwl4 cw15 (by omega)
 exact ⟨((os).set ((ys).length) (((os).getD ((ys).length) 0) + ((c : Nat) : Int))), rfl, fw15, ⟨by rw [List.length_set]; exact ho, by rw [take_set_self]; exact hlm, he⟩, q16⟩

theorem c_divStep {w : World} {va : Value} {lva uva : Nat} {preva sufva : List Value} {zs : List Int} {vb : Value} {lvb uvb : Nat} {ys : List Int} (hva : Win w lva uva va intT preva sufva zs) (hvb : Sl w lvb uvb vb (ys)) (hd : uvb ≤ lva ∨ uva ≤ lvb) (hzl : zs.length = ys.length + 1) (h2 : 2 ≤ ys.length) (hz : Lm zs) (hy : Lm ys) (hv1 : 0 < ys.getD (ys.length - 1) 0) (hU : vl zs < 1000000000 * vl ys) (h63 : zs.length ≤ 1000) :
  Ret Tryz.prog 81 [va, vb] w fun v w' => ∃ os, v = .int .i64 (((vl zs / vl ys : Nat) : Int)) ∧ Win w' lva uva va intT preva sufva (os) ∧ (Lm os ∧ (os).length = (zs).length ∧ vl os = vl zs % vl ys) ∧ Chg lva uva w w' := by
 have a0 := hz.getD ys.length
 have a1 := hz.getD (ys.length - 1)
 have a2 := hz.getD (ys.length - 2)
 have b1 := hy.getD (ys.length - 1)
 have b2 := hy.getD (ys.length - 2)
 have hV : 0 < vl ys := by omega
 refine sx_enter Tryz.func81 rfl Tryz.ntmps81 (nbl rfl) ?_
 refine sx_seq fun K1 k1 => sx_region ?_
 refine av rfl rfl (wl_nil (q_n (k1 _ _ ?_)))
 refine sx_seq fun K2 k2 => sx_region ?_
 refine mv rfl rfl (sp rfl (px_len rfl Tryz.underlying28 hvb) ?_)
 refine av rfl rfl (wl_nil (q_n (k2 _ _ ?_)))
 refine sx_seq fun K3 k3 => ?_
 refine dx_region (fun w' => Chg 0 0 w w') (by kernel_rfl) (Chg.zero (Chg.drew _)) ?_
 have d4 := Chg.drew w
 have s4 : Chg 0 0 w (World.drew w) := Chg.zero (Chg.drew _)
 have y4 : (World.drew w).heap.size = w.heap.size := rfl
 generalize World.drew w = w4 at *
 have zw4 := d4.size
 refine dt 0 rfl rfl rfl rfl s4 (fun _ hS => px_move rfl) ?_
 refine dt 1 rfl rfl rfl rfl s4 (fun _ hS => px_move rfl) ?_
 refine dt 2 rfl rfl rfl rfl s4 (fun _ hS => px_index1 (j := (ys).length) rfl rfl (by omega) Tryz.underlying28 Tryz.sizeOf3 ((hva.sv).chg hS (by omega)) (by omega)) ?_
 refine dt 3 rfl rfl rfl rfl s4 (fun _ hS => px_load rfl (((hva.sv).chg hS (by omega)).load1 (at_int (by omega)) Tryz.isAgg3)) ?_
 refine dt 4 rfl rfl rfl rfl s4 (fun _ hS => px_mul rfl rfl (by omega)) ?_
 refine dt 5 rfl rfl rfl rfl s4 (fun _ hS => px_move rfl) ?_
 refine dt 6 rfl rfl rfl rfl s4 (fun _ hS => px_move rfl) ?_
 refine dt 7 rfl rfl rfl rfl s4 (fun _ hS => px_sub rfl rfl (by omega)) ?_
 refine dt 8 rfl rfl rfl rfl s4 (fun _ hS => px_index1 (j := ((ys).length - 1)) rfl rfl (by omega) Tryz.underlying28 Tryz.sizeOf3 ((hva.sv).chg hS (by omega)) (by omega)) ?_
 refine dt 9 rfl rfl rfl rfl s4 (fun _ hS => px_load rfl (((hva.sv).chg hS (by omega)).load1 (at_int (by omega)) Tryz.isAgg3)) ?_
 refine dt 10 rfl rfl rfl rfl s4 (fun _ hS => px_add rfl rfl (by omega)) ?_
 refine dt 11 rfl rfl rfl rfl s4 (fun _ hS => px_assign rfl) ?_
 refine dx_done (by kernel_rfl) ?_
 refine q_n (k3 _ _ ?_)
 refine sx_sub (Sub.c 0 rfl (.c 1 rfl (.c 4 rfl (.c 5 rfl (.c 6 rfl .nil))))) ?_
 refine sx_seq fun K5 k5 => sx_region ?_
 refine mv rfl rfl (mv rfl rfl (mv rfl rfl (sp rfl (px_sub rfl rfl (by omega)) ?_)))
 have f6 := hvb.ext d4
 refine sp rfl (px_index1 (j := ((ys).length - 1)) rfl rfl (by omega) Tryz.underlying28 Tryz.sizeOf3 f6 (by omega)) ?_
 refine sp rfl (px_load rfl (f6.load1 (at_int (by omega)) Tryz.isAgg3)) ?_
 refine sp rfl (px_quo rfl rfl (by omega) (by omega) (by omega)) ?_
 refine sp rfl (px_min rfl rfl) ?_
 refine av rfl rfl (wl_nil (q_n (k5 _ _ ?_)))
 refine sx_seq fun K7 k7 => ?_
 refine sx_block ?_
 refine sx_loop (fun mm aa w' => ∃ (q : Int), Agr 81 [(0, va), (1, vb), (5, .int .i64 ↑ys.length), (6, .int .i64 ((((zs).getD ((ys).length) 0) * 1000000000) + ((zs).getD ((ys).length - 1) 0))), (7, .int .i64 q)] aa ∧ Chg 0 0 w4 w' ∧ (mm = q.toNat) ∧ (Guess zs ys ys.length ((((zs).getD ((ys).length) 0) * 1000000000) + ((zs).getD ((ys).length - 1) 0)) q)) (_) (fun a ha => ⟨(min (((((zs).getD ((ys).length) 0) * 1000000000) + ((zs).getD ((ys).length - 1) 0)) / ((ys).getD ((ys).length - 1) 0)) 999999999), ha.sub (Sub.c 0 rfl (.c 1 rfl (.c 5 (look_int (t := 5) rfl (by first | omega | simp)) (.c 6 rfl (.c 7 (look_int (t := 7) rfl (by first | omega | simp)) .nil))))), Chg.refl _ _ _, rfl, guess_init h2 hzl rfl hz hy hv1 hU rfl⟩) ?_
 rintro mm aa wl8 ⟨q, hAwl8, cwl8, hm, hg⟩
 refine (show cw Tryz.prog 81 _ _ _ wl8 from ?_) aa hAwl8
 clear hAwl8
 have zwl8 := cwl8.size
 have hq0 := hg.q0
 have hq1 := hg.q1
 have hqv := hg.qv
 have m1 := mul_limb hq0 (by omega) b1.1 b1.2
 have m2 := mul_limb hq0 (by omega) b2.1 b2.2
 refine sx_seq fun K9 k9 => ?_
 refine sx_seq fun K10 k10 => ?_
 by_cases ph44 : 0 < q
 ·
  by_cases ph44x1 : zs.getD ys.length 0 * 1000000000 + zs.getD (ys.length - 1) 0 - q * ys.getD (ys.length - 1) 0 < 1000000000
  ·
   have f12 := (hva.ext d4).ext cwl8
   have f13 := f6.ext cwl8
   refine dx_region (fun w' => Chg 0 0 wl8 w') (by kernel_rfl) (Chg.zero (Chg.drew _)) ?_
   have d14 := Chg.drew wl8
   have s14 : Chg 0 0 wl8 (World.drew wl8) := Chg.zero (Chg.drew _)
   have y14 : (World.drew wl8).heap.size = wl8.heap.size := rfl
   generalize World.drew wl8 = w14 at *
   have zw14 := d14.size
   refine dt 0 rfl rfl rfl rfl s14 (fun _ hS => px_move rfl) ?_
   refine dt 1 rfl rfl rfl rfl s14 (fun _ hS => px_gt rfl rfl) ?_
   refine dt 2 rfl rfl rfl rfl s14 (fun _ hS => px_move rfl) ?_
   have h44 : (0 : Int) < q := by first | omega | exact ph44
   refine dx_tmpPT (t := 31) rfl h44 ?_
   refine dx_takeG 3 rfl rfl rfl rfl rfl rfl (by kernel_rfl) (by kernel_rfl) (by kernel_rfl) s14 (fun _ hS => px_move rfl) ?_
   refine dx_takeG 4 rfl rfl rfl rfl rfl rfl (by kernel_rfl) (by kernel_rfl) (by kernel_rfl) s14 (fun _ hS => px_move rfl) ?_
   refine dx_takeG 5 rfl rfl rfl rfl rfl rfl (by kernel_rfl) (by kernel_rfl) (by kernel_rfl) s14 (fun _ hS => px_move rfl) ?_
   refine dx_takeG 6 rfl rfl rfl rfl rfl rfl (by kernel_rfl) (by kernel_rfl) (by kernel_rfl) s14 (fun _ hS => px_move rfl) ?_
   refine dx_takeG 7 rfl rfl rfl rfl rfl rfl (by kernel_rfl) (by kernel_rfl) (by kernel_rfl) s14 (fun _ hS => px_sub rfl rfl (by omega)) ?_
   refine dx_takeG 8 rfl rfl rfl rfl rfl rfl (by kernel_rfl) (by kernel_rfl) (by kernel_rfl) s14 (fun _ hS => px_index1 (j := (ys.length - 1)) rfl rfl (by omega) Tryz.underlying28 Tryz.sizeOf3 ((f13).chg hS (by omega)) (by omega)) ?_
   refine dx_takeG 9 rfl rfl rfl rfl rfl rfl (by kernel_rfl) (by kernel_rfl) (by kernel_rfl) s14 (fun _ hS => px_load rfl (((f13).chg hS (by omega)).load1 (at_int (by omega)) Tryz.isAgg3)) ?_
   refine dx_takeG 10 rfl rfl rfl rfl rfl rfl (by kernel_rfl) (by kernel_rfl) (by kernel_rfl) s14 (fun _ hS => px_mul rfl rfl (by omega)) ?_
   refine dx_takeG 11 rfl rfl rfl rfl rfl rfl (by kernel_rfl) (by kernel_rfl) (by kernel_rfl) s14 (fun _ hS => px_sub rfl rfl (by omega)) ?_
   refine dx_takeG 12 rfl rfl rfl rfl rfl rfl (by kernel_rfl) (by kernel_rfl) (by kernel_rfl) s14 (fun _ hS => px_lt rfl rfl) ?_
   refine dt 13 rfl rfl rfl rfl s14 (fun _ hS => px_pick rfl rfl) ?_
   refine dt 14 rfl rfl rfl rfl s14 (fun _ hS => px_move rfl) ?_
   have h44x1 : (((((zs).getD ((ys).length) 0) * 1000000000) + ((zs).getD ((ys).length - 1) 0)) - (q * ((ys).getD (ys.length - 1) 0)) : Int) < 1000000000 := by first | omega | exact ph44x1
   refine dx_tmpPT (t := 43) rfl h44x1 ?_
   refine dx_takeG 15 rfl rfl rfl rfl rfl rfl (by kernel_rfl) (by kernel_rfl) (by kernel_rfl) s14 (fun _ hS => px_move rfl) ?_
   refine dx_takeG 16 rfl rfl rfl rfl rfl rfl (by kernel_rfl) (by kernel_rfl) (by kernel_rfl) s14 (fun _ hS => px_move rfl) ?_
   refine dx_takeG 17 rfl rfl rfl rfl rfl rfl (by kernel_rfl) (by kernel_rfl) (by kernel_rfl) s14 (fun _ hS => px_move rfl) ?_
   refine dx_takeG 18 rfl rfl rfl rfl rfl rfl (by kernel_rfl) (by kernel_rfl) (by kernel_rfl) s14 (fun _ hS => px_sub rfl rfl (by omega)) ?_
   refine dx_takeG 19 rfl rfl rfl rfl rfl rfl (by kernel_rfl) (by kernel_rfl) (by kernel_rfl) s14 (fun _ hS => px_index1 (j := (ys.length - 2)) rfl rfl (by omega) Tryz.underlying28 Tryz.sizeOf3 ((f13).chg hS (by omega)) (by omega)) ?_
   refine dx_takeG 20 rfl rfl rfl rfl rfl rfl (by kernel_rfl) (by kernel_rfl) (by kernel_rfl) s14 (fun _ hS => px_load rfl (((f13).chg hS (by omega)).load1 (at_int (by omega)) Tryz.isAgg3)) ?_
   refine dx_takeG 21 rfl rfl rfl rfl rfl rfl (by kernel_rfl) (by kernel_rfl) (by kernel_rfl) s14 (fun _ hS => px_mul rfl rfl (by omega)) ?_
   refine dx_takeG 22 rfl rfl rfl rfl rfl rfl (by kernel_rfl) (by kernel_rfl) (by kernel_rfl) s14 (fun _ hS => px_move rfl) ?_
   refine dx_takeG 23 rfl rfl rfl rfl rfl rfl (by kernel_rfl) (by kernel_rfl) (by kernel_rfl) s14 (fun _ hS => px_move rfl) ?_
   refine dx_takeG 24 rfl rfl rfl rfl rfl rfl (by kernel_rfl) (by kernel_rfl) (by kernel_rfl) s14 (fun _ hS => px_move rfl) ?_
   refine dx_takeG 25 rfl rfl rfl rfl rfl rfl (by kernel_rfl) (by kernel_rfl) (by kernel_rfl) s14 (fun _ hS => px_move rfl) ?_
   refine dx_takeG 26 rfl rfl rfl rfl rfl rfl (by kernel_rfl) (by kernel_rfl) (by kernel_rfl) s14 (fun _ hS => px_sub rfl rfl (by omega)) ?_
   refine dx_takeG 27 rfl rfl rfl rfl rfl rfl (by kernel_rfl) (by kernel_rfl) (by kernel_rfl) s14 (fun _ hS => px_index1 (j := (ys.length - 1)) rfl rfl (by omega) Tryz.underlying28 Tryz.sizeOf3 ((f13).chg hS (by omega)) (by omega)) ?_
   refine dx_takeG 28 rfl rfl rfl rfl rfl rfl (by kernel_rfl) (by kernel_rfl) (by kernel_rfl) s14 (fun _ hS => px_load rfl (((f13).chg hS (by omega)).load1 (at_int (by omega)) Tryz.isAgg3)) ?_
   refine dx_takeG 29 rfl rfl rfl rfl rfl rfl (by kernel_rfl) (by kernel_rfl) (by kernel_rfl) s14 (fun _ hS => px_mul rfl rfl (by omega)) ?_
   refine dx_takeG 30 rfl rfl rfl rfl rfl rfl (by kernel_rfl) (by kernel_rfl) (by kernel_rfl) s14 (fun _ hS => px_sub rfl rfl (by omega)) ?_
   refine dx_takeG 31 rfl rfl rfl rfl rfl rfl (by kernel_rfl) (by kernel_rfl) (by kernel_rfl) s14 (fun _ hS => px_mul rfl rfl (by omega)) ?_
   refine dx_takeG 32 rfl rfl rfl rfl rfl rfl (by kernel_rfl) (by kernel_rfl) (by kernel_rfl) s14 (fun _ hS => px_move rfl) ?_
   refine dx_takeG 33 rfl rfl rfl rfl rfl rfl (by kernel_rfl) (by kernel_rfl) (by kernel_rfl) s14 (fun _ hS => px_move rfl) ?_
   refine dx_takeG 34 rfl rfl rfl rfl rfl rfl (by kernel_rfl) (by kernel_rfl) (by kernel_rfl) s14 (fun _ hS => px_sub rfl rfl (by omega)) ?_
   refine dx_takeG 35 rfl rfl rfl rfl rfl rfl (by kernel_rfl) (by kernel_rfl) (by kernel_rfl) s14 (fun _ hS => px_index1 (j := (ys.length - 2)) rfl rfl (by omega) Tryz.underlying28 Tryz.sizeOf3 ((f12.sv).chg hS (by omega)) (by omega)) ?_
   refine dx_takeG 36 rfl rfl rfl rfl rfl rfl (by kernel_rfl) (by kernel_rfl) (by kernel_rfl) s14 (fun _ hS => px_load rfl (((f12.sv).chg hS (by omega)).load1 (at_int (by omega)) Tryz.isAgg3)) ?_
   refine dx_takeG 37 rfl rfl rfl rfl rfl rfl (by kernel_rfl) (by kernel_rfl) (by kernel_rfl) s14 (fun _ hS => px_add rfl rfl (by omega)) ?_
   refine dx_takeG 38 rfl rfl rfl rfl rfl rfl (by kernel_rfl) (by kernel_rfl) (by kernel_rfl) s14 (fun _ hS => px_gt rfl rfl) ?_
   refine dt 39 rfl rfl rfl rfl s14 (fun _ hS => px_pick rfl rfl) ?_
   refine dx_done (by kernel_rfl) ?_
   refine q_n (k10 _ _ ?_)
   refine sx_sub (Sub.c 0 rfl (.c 1 rfl (.c 5 rfl (.c 6 rfl (.c 7 rfl (.c 68 rfl .nil)))))) ?_
   refine sx_condP rfl (fun h44x2 => ?_) (fun h44x2 => ?_)
   ·
    refine sx_skip ?_
    refine q_n (k9 _ _ ?_)
    refine sx_block ?_
    refine sx_region ?_
    refine mv rfl rfl (sp rfl (px_sub rfl rfl (by omega)) ?_)
    refine av rfl rfl (wl_nil ?_)
    exact q_bn (fun a ha => ⟨_, by omega, (q - 1), ha.sub (Sub.c 0 rfl (.c 1 rfl (.c 5 rfl (.c 6 rfl (.c 7 (look_int (t := 7) rfl (by first | omega | simp)) .nil))))), (cwl8.t d14), rfl, guess_next h2 hzl rfl hz hy hv1 rfl hg (by omega) (by omega)⟩)
   refine sx_exit ?_
   refine q_e (q_e (q_bx (q_n (k7 _ _ ?_))))
   refine sx_seq fun K15 k15 => ?_
   refine sx_seq fun K16 k16 => ?_
   have hge := guess_end h2 hzl rfl hz hy hv1 rfl hg (by first | exact .inl (by omega) | exact .inr (.inl (by omega)) | exact .inr (.inr (by omega)))
   refine sx_region ?_
   refine mv rfl rfl (mv rfl rfl (mv rfl rfl ?_))
   have f17 := f12.ext d14
   have f18 := f13.ext d14
   refine sx_call rfl rfl Tryz.call97 (c_subTimes f17 f18 (by omega) (by omega) (by assumption) (by assumption) (by omega) (by omega)) (fun v19 w19 p19 => ?_)
   obtain ⟨os19, rfl, ova_19, hs19, c19⟩ := p19
   have zw19 := c19.size
   have hol := hs19.1.trans hzl
   have hlmx := hs19.2.1
   have hst := step_sub hzl hz hy rfl hV hq0 hg.up hge hol hs19.2.1 hs19.2.2
   refine wl_nil (q_n (k16 _ _ ?_))
   refine sx_condP rfl (fun h47 => ?_) (fun h47 => ?_)
   ·
    have hs2 := hst.2 h47
    have hs3 := hs2.1
    refine sx_seq fun K20 k20 => sx_region ?_
    refine mv rfl rfl (sp rfl (px_sub rfl rfl (by omega)) ?_)
    refine av rfl rfl (wl_nil (q_n (k20 _ _ ?_)))
    refine sx_region ?_
    refine mv rfl rfl (mv rfl rfl ?_)
    have f21 := f18.chg c19 (by omega)
    refine sx_call rfl rfl Tryz.call98 (c_addBack ova_19 f21 (by omega) (hol) (by assumption) (by assumption) (by omega) (by omega)) (fun v22 w22 p22 => ?_)
    obtain ⟨os22, rfl, ova_22, hs22, c22⟩ := p22
    have zw22 := c22.size
    have hfl := hs22.1.trans hol
    have hfin := hs2.2.2 _ hfl hs22.2.1 hs22.2.2
    refine wl_nil (q_n (k15 _ _ ?_))
    refine sx_sub (Sub.c 7 rfl .nil) ?_
    refine sx_seq fun K23 k23 => sx_region ?_
    refine mv rfl rfl (av rfl rfl (wl_nil (q_n (k23 _ _ ?_))))
    refine sx_retc ?_
    refine sx_ret1 Tryz.results81 rfl ?_
    have q24 := Chg.step (l := lva) (h := uva) (Chg.zero (l := lva) (h := uva) ((d4.t cwl8).t d14)) c19 (by omega)
    have q25 := Chg.step (l := lva) (h := uva) q24 c22 (by omega)
    exact ⟨_, by rw [hs2.2.1], ova_22, ⟨hfin.1, by omega, hfin.2⟩, q25⟩
   have hs1 := hst.1 (by omega)
   refine sx_skip ?_
   refine q_n (k15 _ _ ?_)
   refine sx_seq fun K26 k26 => sx_region ?_
   refine mv rfl rfl (av rfl rfl (wl_nil (q_n (k26 _ _ ?_))))
   refine sx_retc ?_
   refine sx_ret1 Tryz.results81 rfl ?_
   have q27 := Chg.step (l := lva) (h := uva) (Chg.zero (l := lva) (h := uva) ((d4.t cwl8).t d14)) c19 (by omega)
   exact ⟨_, by rw [hs1.1], ova_19, ⟨hs1.2.1, by omega, hs1.2.2⟩, q27⟩
  have f29 := (hva.ext d4).ext cwl8
  have f30 := f6.ext cwl8
  refine dx_region (fun w' => Chg 0 0 wl8 w') (by kernel_rfl) (Chg.zero (Chg.drew _)) ?_
  have d31 := Chg.drew wl8
  have s31 : Chg 0 0 wl8 (World.drew wl8) := Chg.zero (Chg.drew _)
  have y31 : (World.drew wl8).heap.size = wl8.heap.size := rfl
  generalize World.drew wl8 = w31 at *
  have zw31 := d31.size
  refine dt 0 rfl rfl rfl rfl s31 (fun _ hS => px_move rfl) ?_
  refine dt 1 rfl rfl rfl rfl s31 (fun _ hS => px_gt rfl rfl) ?_
  refine dt 2 rfl rfl rfl rfl s31 (fun _ hS => px_move rfl) ?_
  have h44 : (0 : Int) < q := by first | omega | exact ph44
  refine dx_tmpPT (t := 31) rfl h44 ?_
  refine dx_takeG 3 rfl rfl rfl rfl rfl rfl (by kernel_rfl) (by kernel_rfl) (by kernel_rfl) s31 (fun _ hS => px_move rfl) ?_
  refine dx_takeG 4 rfl rfl rfl rfl rfl rfl (by kernel_rfl) (by kernel_rfl) (by kernel_rfl) s31 (fun _ hS => px_move rfl) ?_
  refine dx_takeG 5 rfl rfl rfl rfl rfl rfl (by kernel_rfl) (by kernel_rfl) (by kernel_rfl) s31 (fun _ hS => px_move rfl) ?_
  refine dx_takeG 6 rfl rfl rfl rfl rfl rfl (by kernel_rfl) (by kernel_rfl) (by kernel_rfl) s31 (fun _ hS => px_move rfl) ?_
  refine dx_takeG 7 rfl rfl rfl rfl rfl rfl (by kernel_rfl) (by kernel_rfl) (by kernel_rfl) s31 (fun _ hS => px_sub rfl rfl (by omega)) ?_
  refine dx_takeG 8 rfl rfl rfl rfl rfl rfl (by kernel_rfl) (by kernel_rfl) (by kernel_rfl) s31 (fun _ hS => px_index1 (j := (ys.length - 1)) rfl rfl (by omega) Tryz.underlying28 Tryz.sizeOf3 ((f30).chg hS (by omega)) (by omega)) ?_
  refine dx_takeG 9 rfl rfl rfl rfl rfl rfl (by kernel_rfl) (by kernel_rfl) (by kernel_rfl) s31 (fun _ hS => px_load rfl (((f30).chg hS (by omega)).load1 (at_int (by omega)) Tryz.isAgg3)) ?_
  refine dx_takeG 10 rfl rfl rfl rfl rfl rfl (by kernel_rfl) (by kernel_rfl) (by kernel_rfl) s31 (fun _ hS => px_mul rfl rfl (by omega)) ?_
  refine dx_takeG 11 rfl rfl rfl rfl rfl rfl (by kernel_rfl) (by kernel_rfl) (by kernel_rfl) s31 (fun _ hS => px_sub rfl rfl (by omega)) ?_
  refine dx_takeG 12 rfl rfl rfl rfl rfl rfl (by kernel_rfl) (by kernel_rfl) (by kernel_rfl) s31 (fun _ hS => px_lt rfl rfl) ?_
  refine dt 13 rfl rfl rfl rfl s31 (fun _ hS => px_pick rfl rfl) ?_
  refine dt 14 rfl rfl rfl rfl s31 (fun _ hS => px_move rfl) ?_
  have h44x1 : ¬ ((((((zs).getD ((ys).length) 0) * 1000000000) + ((zs).getD ((ys).length - 1) 0)) - (q * ((ys).getD (ys.length - 1) 0)) : Int) < 1000000000) := by first | omega | exact ph44x1
  refine dx_tmpPF (t := 43) rfl h44x1 ?_
  refine dx_skip 15 rfl rfl rfl rfl rfl rfl rfl (by kernel_rfl) (by kernel_rfl) (by kernel_rfl) s31 ?_
  refine dx_skip 16 rfl rfl rfl rfl rfl rfl rfl (by kernel_rfl) (by kernel_rfl) (by kernel_rfl) s31 ?_
  refine dx_skip 17 rfl rfl rfl rfl rfl rfl rfl (by kernel_rfl) (by kernel_rfl) (by kernel_rfl) s31 ?_
  refine dx_skip 18 rfl rfl rfl rfl rfl rfl rfl (by kernel_rfl) (by kernel_rfl) (by kernel_rfl) s31 ?_
  refine dx_skip 19 rfl rfl rfl rfl rfl rfl rfl (by kernel_rfl) (by kernel_rfl) (by kernel_rfl) s31 ?_
  refine dx_skip 20 rfl rfl rfl rfl rfl rfl rfl (by kernel_rfl) (by kernel_rfl) (by kernel_rfl) s31 ?_
  refine dx_skip 21 rfl rfl rfl rfl rfl rfl rfl (by kernel_rfl) (by kernel_rfl) (by kernel_rfl) s31 ?_
  refine dx_skip 22 rfl rfl rfl rfl rfl rfl rfl (by kernel_rfl) (by kernel_rfl) (by kernel_rfl) s31 ?_
  refine dx_skip 23 rfl rfl rfl rfl rfl rfl rfl (by kernel_rfl) (by kernel_rfl) (by kernel_rfl) s31 ?_
  refine dx_skip 24 rfl rfl rfl rfl rfl rfl rfl (by kernel_rfl) (by kernel_rfl) (by kernel_rfl) s31 ?_
  refine dx_skip 25 rfl rfl rfl rfl rfl rfl rfl (by kernel_rfl) (by kernel_rfl) (by kernel_rfl) s31 ?_
  refine dx_skip 26 rfl rfl rfl rfl rfl rfl rfl (by kernel_rfl) (by kernel_rfl) (by kernel_rfl) s31 ?_
  refine dx_skip 27 rfl rfl rfl rfl rfl rfl rfl (by kernel_rfl) (by kernel_rfl) (by kernel_rfl) s31 ?_
  refine dx_skip 28 rfl rfl rfl rfl rfl rfl rfl (by kernel_rfl) (by kernel_rfl) (by kernel_rfl) s31 ?_
  refine dx_skip 29 rfl rfl rfl rfl rfl rfl rfl (by kernel_rfl) (by kernel_rfl) (by kernel_rfl) s31 ?_
  refine dx_skip 30 rfl rfl rfl rfl rfl rfl rfl (by kernel_rfl) (by kernel_rfl) (by kernel_rfl) s31 ?_
  refine dx_skip 31 rfl rfl rfl rfl rfl rfl rfl (by kernel_rfl) (by kernel_rfl) (by kernel_rfl) s31 ?_
  refine dx_skip 32 rfl rfl rfl rfl rfl rfl rfl (by kernel_rfl) (by kernel_rfl) (by kernel_rfl) s31 ?_
  refine dx_skip 33 rfl rfl rfl rfl rfl rfl rfl (by kernel_rfl) (by kernel_rfl) (by kernel_rfl) s31 ?_
  refine dx_skip 34 rfl rfl rfl rfl rfl rfl rfl (by kernel_rfl) (by kernel_rfl) (by kernel_rfl) s31 ?_
  refine dx_skip 35 rfl rfl rfl rfl rfl rfl rfl (by kernel_rfl) (by kernel_rfl) (by kernel_rfl) s31 ?_
  refine dx_skip 36 rfl rfl rfl rfl rfl rfl rfl (by kernel_rfl) (by kernel_rfl) (by kernel_rfl) s31 ?_
  refine dx_skip 37 rfl rfl rfl rfl rfl rfl rfl (by kernel_rfl) (by kernel_rfl) (by kernel_rfl) s31 ?_
  refine dx_skip 38 rfl rfl rfl rfl rfl rfl rfl (by kernel_rfl) (by kernel_rfl) (by kernel_rfl) s31 ?_
  refine dt 39 rfl rfl rfl rfl s31 (fun _ hS => px_pick rfl rfl) ?_
  refine dx_done (by kernel_rfl) ?_
  refine q_n (k10 _ _ ?_)
  refine sx_sub (Sub.c 0 rfl (.c 1 rfl (.c 5 rfl (.c 6 rfl (.c 7 rfl (.c 68 rfl .nil)))))) ?_
  refine sx_condF rfl ?_
  refine sx_exit ?_
  refine q_e (q_e (q_bx (q_n (k7 _ _ ?_))))
  refine sx_seq fun K32 k32 => ?_
  refine sx_seq fun K33 k33 => ?_
  have hge := guess_end h2 hzl rfl hz hy hv1 rfl hg (by first | exact .inl (by omega) | exact .inr (.inl (by omega)) | exact .inr (.inr (by omega)))
  refine sx_region ?_
  refine mv rfl rfl (mv rfl rfl (mv rfl rfl ?_))
  have f34 := f29.ext d31
  have f35 := f30.ext d31
  refine sx_call rfl rfl Tryz.call97 (c_subTimes f34 f35 (by omega) (by omega) (by assumption) (by assumption) (by omega) (by omega)) (fun v36 w36 p36 => ?_)
  obtain ⟨os36, rfl, ova_36, hs36, c36⟩ := p36
  have zw36 := c36.size
  have hol := hs36.1.trans hzl
  have hlmx := hs36.2.1
  have hst := step_sub hzl hz hy rfl hV hq0 hg.up hge hol hs36.2.1 hs36.2.2
  refine wl_nil (q_n (k33 _ _ ?_))
  refine sx_condP rfl (fun h47 => ?_) (fun h47 => ?_)
  ·
   have hs2 := hst.2 h47
   have hs3 := hs2.1
   refine sx_seq fun K37 k37 => sx_region ?_
   refine mv rfl rfl (sp rfl (px_sub rfl rfl (by omega)) ?_)
   refine av rfl rfl (wl_nil (q_n (k37 _ _ ?_)))
   refine sx_region ?_
   refine mv rfl rfl (mv rfl rfl ?_)
   have f38 := f35.chg c36 (by omega)
   refine sx_call rfl rfl Tryz.call98 (c_addBack ova_36 f38 (by omega) (hol) (by assumption) (by assumption) (by omega) (by omega)) (fun v39 w39 p39 => ?_)
   obtain ⟨os39, rfl, ova_39, hs39, c39⟩ := p39
   have zw39 := c39.size
   have hfl := hs39.1.trans hol
   have hfin := hs2.2.2 _ hfl hs39.2.1 hs39.2.2
   refine wl_nil (q_n (k32 _ _ ?_))
   refine sx_sub (Sub.c 7 rfl .nil) ?_
   refine sx_seq fun K40 k40 => sx_region ?_
   refine mv rfl rfl (av rfl rfl (wl_nil (q_n (k40 _ _ ?_))))
   refine sx_retc ?_
   refine sx_ret1 Tryz.results81 rfl ?_
   have q41 := Chg.step (l := lva) (h := uva) (Chg.zero (l := lva) (h := uva) ((d4.t cwl8).t d31)) c36 (by omega)
   have q42 := Chg.step (l := lva) (h := uva) q41 c39 (by omega)
   exact ⟨_, by rw [hs2.2.1], ova_39, ⟨hfin.1, by omega, hfin.2⟩, q42⟩
  have hs1 := hst.1 (by omega)
  refine sx_skip ?_
  refine q_n (k32 _ _ ?_)
  refine sx_seq fun K43 k43 => sx_region ?_
  refine mv rfl rfl (av rfl rfl (wl_nil (q_n (k43 _ _ ?_))))
  refine sx_retc ?_
  refine sx_ret1 Tryz.results81 rfl ?_
  have q44 := Chg.step (l := lva) (h := uva) (Chg.zero (l := lva) (h := uva) ((d4.t cwl8).t d31)) c36 (by omega)
  exact ⟨_, by rw [hs1.1], ova_36, ⟨hs1.2.1, by omega, hs1.2.2⟩, q44⟩
 have f46 := (hva.ext d4).ext cwl8
 have f47 := f6.ext cwl8
 refine dx_region (fun w' => Chg 0 0 wl8 w') (by kernel_rfl) (Chg.zero (Chg.drew _)) ?_
 have d48 := Chg.drew wl8
 have s48 : Chg 0 0 wl8 (World.drew wl8) := Chg.zero (Chg.drew _)
 have y48 : (World.drew wl8).heap.size = wl8.heap.size := rfl
 generalize World.drew wl8 = w48 at *
 have zw48 := d48.size
 refine dt 0 rfl rfl rfl rfl s48 (fun _ hS => px_move rfl) ?_
 refine dt 1 rfl rfl rfl rfl s48 (fun _ hS => px_gt rfl rfl) ?_
 refine dt 2 rfl rfl rfl rfl s48 (fun _ hS => px_move rfl) ?_
 have h44 : ¬ ((0 : Int) < q) := by first | omega | exact ph44
 refine dx_tmpPF (t := 31) rfl h44 ?_
 refine dx_skip 3 rfl rfl rfl rfl rfl rfl rfl (by kernel_rfl) (by kernel_rfl) (by kernel_rfl) s48 ?_
 refine dx_skip 4 rfl rfl rfl rfl rfl rfl rfl (by kernel_rfl) (by kernel_rfl) (by kernel_rfl) s48 ?_
 refine dx_skip 5 rfl rfl rfl rfl rfl rfl rfl (by kernel_rfl) (by kernel_rfl) (by kernel_rfl) s48 ?_
 refine dx_skip 6 rfl rfl rfl rfl rfl rfl rfl (by kernel_rfl) (by kernel_rfl) (by kernel_rfl) s48 ?_
 refine dx_skip 7 rfl rfl rfl rfl rfl rfl rfl (by kernel_rfl) (by kernel_rfl) (by kernel_rfl) s48 ?_
 refine dx_skip 8 rfl rfl rfl rfl rfl rfl rfl (by kernel_rfl) (by kernel_rfl) (by kernel_rfl) s48 ?_
 refine dx_skip 9 rfl rfl rfl rfl rfl rfl rfl (by kernel_rfl) (by kernel_rfl) (by kernel_rfl) s48 ?_
 refine dx_skip 10 rfl rfl rfl rfl rfl rfl rfl (by kernel_rfl) (by kernel_rfl) (by kernel_rfl) s48 ?_
 refine dx_skip 11 rfl rfl rfl rfl rfl rfl rfl (by kernel_rfl) (by kernel_rfl) (by kernel_rfl) s48 ?_
 refine dx_skip 12 rfl rfl rfl rfl rfl rfl rfl (by kernel_rfl) (by kernel_rfl) (by kernel_rfl) s48 ?_
 refine dt 13 rfl rfl rfl rfl s48 (fun _ hS => px_pick rfl rfl) ?_
 refine dt 14 rfl rfl rfl rfl s48 (fun _ hS => px_move rfl) ?_
 refine dx_skip 15 rfl rfl rfl rfl rfl rfl rfl (by kernel_rfl) (by kernel_rfl) (by kernel_rfl) s48 ?_
 refine dx_skip 16 rfl rfl rfl rfl rfl rfl rfl (by kernel_rfl) (by kernel_rfl) (by kernel_rfl) s48 ?_
 refine dx_skip 17 rfl rfl rfl rfl rfl rfl rfl (by kernel_rfl) (by kernel_rfl) (by kernel_rfl) s48 ?_
 refine dx_skip 18 rfl rfl rfl rfl rfl rfl rfl (by kernel_rfl) (by kernel_rfl) (by kernel_rfl) s48 ?_
 refine dx_skip 19 rfl rfl rfl rfl rfl rfl rfl (by kernel_rfl) (by kernel_rfl) (by kernel_rfl) s48 ?_
 refine dx_skip 20 rfl rfl rfl rfl rfl rfl rfl (by kernel_rfl) (by kernel_rfl) (by kernel_rfl) s48 ?_
 refine dx_skip 21 rfl rfl rfl rfl rfl rfl rfl (by kernel_rfl) (by kernel_rfl) (by kernel_rfl) s48 ?_
 refine dx_skip 22 rfl rfl rfl rfl rfl rfl rfl (by kernel_rfl) (by kernel_rfl) (by kernel_rfl) s48 ?_
 refine dx_skip 23 rfl rfl rfl rfl rfl rfl rfl (by kernel_rfl) (by kernel_rfl) (by kernel_rfl) s48 ?_
 refine dx_skip 24 rfl rfl rfl rfl rfl rfl rfl (by kernel_rfl) (by kernel_rfl) (by kernel_rfl) s48 ?_
 refine dx_skip 25 rfl rfl rfl rfl rfl rfl rfl (by kernel_rfl) (by kernel_rfl) (by kernel_rfl) s48 ?_
 refine dx_skip 26 rfl rfl rfl rfl rfl rfl rfl (by kernel_rfl) (by kernel_rfl) (by kernel_rfl) s48 ?_
 refine dx_skip 27 rfl rfl rfl rfl rfl rfl rfl (by kernel_rfl) (by kernel_rfl) (by kernel_rfl) s48 ?_
 refine dx_skip 28 rfl rfl rfl rfl rfl rfl rfl (by kernel_rfl) (by kernel_rfl) (by kernel_rfl) s48 ?_
 refine dx_skip 29 rfl rfl rfl rfl rfl rfl rfl (by kernel_rfl) (by kernel_rfl) (by kernel_rfl) s48 ?_
 refine dx_skip 30 rfl rfl rfl rfl rfl rfl rfl (by kernel_rfl) (by kernel_rfl) (by kernel_rfl) s48 ?_
 refine dx_skip 31 rfl rfl rfl rfl rfl rfl rfl (by kernel_rfl) (by kernel_rfl) (by kernel_rfl) s48 ?_
 refine dx_skip 32 rfl rfl rfl rfl rfl rfl rfl (by kernel_rfl) (by kernel_rfl) (by kernel_rfl) s48 ?_
 refine dx_skip 33 rfl rfl rfl rfl rfl rfl rfl (by kernel_rfl) (by kernel_rfl) (by kernel_rfl) s48 ?_
 refine dx_skip 34 rfl rfl rfl rfl rfl rfl rfl (by kernel_rfl) (by kernel_rfl) (by kernel_rfl) s48 ?_
 refine dx_skip 35 rfl rfl rfl rfl rfl rfl rfl (by kernel_rfl) (by kernel_rfl) (by kernel_rfl) s48 ?_
 refine dx_skip 36 rfl rfl rfl rfl rfl rfl rfl (by kernel_rfl) (by kernel_rfl) (by kernel_rfl) s48 ?_
 refine dx_skip 37 rfl rfl rfl rfl rfl rfl rfl (by kernel_rfl) (by kernel_rfl) (by kernel_rfl) s48 ?_
 refine dx_skip 38 rfl rfl rfl rfl rfl rfl rfl (by kernel_rfl) (by kernel_rfl) (by kernel_rfl) s48 ?_
 refine dt 39 rfl rfl rfl rfl s48 (fun _ hS => px_pick rfl rfl) ?_
 refine dx_done (by kernel_rfl) ?_
 refine q_n (k10 _ _ ?_)
 refine sx_sub (Sub.c 0 rfl (.c 1 rfl (.c 5 rfl (.c 6 rfl (.c 7 rfl (.c 68 rfl .nil)))))) ?_
 refine sx_condF rfl ?_
 refine sx_exit ?_
 refine q_e (q_e (q_bx (q_n (k7 _ _ ?_))))
 refine sx_seq fun K49 k49 => ?_
 refine sx_seq fun K50 k50 => ?_
 have hge := guess_end h2 hzl rfl hz hy hv1 rfl hg (by first | exact .inl (by omega) | exact .inr (.inl (by omega)) | exact .inr (.inr (by omega)))
 refine sx_region ?_
 refine mv rfl rfl (mv rfl rfl (mv rfl rfl ?_))
 have f51 := f46.ext d48
 have f52 := f47.ext d48
 refine sx_call rfl rfl Tryz.call97 (c_subTimes f51 f52 (by omega) (by omega) (by assumption) (by assumption) (by omega) (by omega)) (fun v53 w53 p53 => ?_)
 obtain ⟨os53, rfl, ova_53, hs53, c53⟩ := p53
 have zw53 := c53.size
 have hol := hs53.1.trans hzl
 have hlmx := hs53.2.1
 have hst := step_sub hzl hz hy rfl hV hq0 hg.up hge hol hs53.2.1 hs53.2.2
 refine wl_nil (q_n (k50 _ _ ?_))
 refine sx_condP rfl (fun h47 => ?_) (fun h47 => ?_)
 ·
  have hs2 := hst.2 h47
  have hs3 := hs2.1
  refine sx_seq fun K54 k54 => sx_region ?_
  refine mv rfl rfl (sp rfl (px_sub rfl rfl (by omega)) ?_)
  refine av rfl rfl (wl_nil (q_n (k54 _ _ ?_)))
  refine sx_region ?_
  refine mv rfl rfl (mv rfl rfl ?_)
  have f55 := f52.chg c53 (by omega)
  refine sx_call rfl rfl Tryz.call98 (c_addBack ova_53 f55 (by omega) (hol) (by assumption) (by assumption) (by omega) (by omega)) (fun v56 w56 p56 => ?_)
  obtain ⟨os56, rfl, ova_56, hs56, c56⟩ := p56
  have zw56 := c56.size
  have hfl := hs56.1.trans hol
  have hfin := hs2.2.2 _ hfl hs56.2.1 hs56.2.2
  refine wl_nil (q_n (k49 _ _ ?_))
  refine sx_sub (Sub.c 7 rfl .nil) ?_
  refine sx_seq fun K57 k57 => sx_region ?_
  refine mv rfl rfl (av rfl rfl (wl_nil (q_n (k57 _ _ ?_))))
  refine sx_retc ?_
  refine sx_ret1 Tryz.results81 rfl ?_
  have q58 := Chg.step (l := lva) (h := uva) (Chg.zero (l := lva) (h := uva) ((d4.t cwl8).t d48)) c53 (by omega)
  have q59 := Chg.step (l := lva) (h := uva) q58 c56 (by omega)
  exact ⟨_, by rw [hs2.2.1], ova_56, ⟨hfin.1, by omega, hfin.2⟩, q59⟩
 have hs1 := hst.1 (by omega)
 refine sx_skip ?_
 refine q_n (k49 _ _ ?_)
 refine sx_seq fun K60 k60 => sx_region ?_
 refine mv rfl rfl (av rfl rfl (wl_nil (q_n (k60 _ _ ?_))))
 refine sx_retc ?_
 refine sx_ret1 Tryz.results81 rfl ?_
 have q61 := Chg.step (l := lva) (h := uva) (Chg.zero (l := lva) (h := uva) ((d4.t cwl8).t d48)) c53 (by omega)
 exact ⟨_, by rw [hs1.1], ova_53, ⟨hs1.2.1, by omega, hs1.2.2⟩, q61⟩

theorem c_natDiv {w : World} {va : Value} {lva uva : Nat} {m : Nat} {vb : Value} {lvb uvb : Nat} {n : Nat} (hva : Sl w lva uva va (dg m)) (hvb : Sl w lvb uvb vb (dg n)) (hbm : (dg m).length ≤ 400) (hbn : (dg n).length ≤ 400) (hn0 : 0 < n) :
  Ret Tryz.prog 52 [va, vb] w fun v w' => ∃ s t, v = .tuple #[s, t] ∧ OwnI w' w.heap.size w'.heap.size s intT (dg (m / n)) ∧ OwnI w' w.heap.size w'.heap.size t intT (dg (m % n)) ∧ Chg 0 0 w w' := by
 have hva0 := hva.fit
 have hvb0 := hvb.fit
 have htp := dg_top hn0
 have hbt := (Lm_dg n).getD ((dg n).length - 1)
 refine sx_enter Tryz.func52 rfl Tryz.ntmps52 (nbl rfl) ?_
 refine sx_seq fun K1 k1 => sx_region ?_
 refine av rfl rfl (av rfl rfl (wl_nil (q_n (k1 _ _ ?_))))
 refine sx_seq fun K2 k2 => ?_
 refine sx_seq fun K3 k3 => sx_region ?_
 refine mv rfl rfl (mv rfl rfl (sx_call rfl rfl Tryz.call54 (c_natCmp hva0 hvb0 (by omega)) (fun v4 w4 p4 => ?_)))
 obtain ⟨rfl, c4⟩ := p4
 have zw4 := c4.size
 refine sp rfl (px_lt rfl rfl) ?_
 refine wl_nil (q_n (k3 _ _ ?_))
 refine sx_condP rfl (fun h17 => ?_) (fun h17 => ?_)
 ·
  rw [cmpL_dg] at h17
  have hlt := cmpN_neg.1 h17
  refine sx_seq fun K5 k5 => sx_region ?_
  refine sx_lit0 rfl xelt28 (fun s6 ws6 ss6 fs6 cs6 => ?_)
  have zws6 := cs6.size
  refine mv rfl rfl ?_
  have f8 := (hva0.ext c4).ext cs6
  refine sx_call rfl rfl Tryz.call63 (c_natCopy f8 (by omega)) (fun v9 w9 p9 => ?_)
  obtain ⟨s9, rfl, os_9, c9⟩ := p9
  have zw9 := c9.size
  refine av rfl rfl (av rfl rfl (wl_nil (q_n (k5 _ _ ?_))))
  refine sx_retc ?_
  refine q_r (sx_ret2 Tryz.results52 rfl rfl ?_)
  rw [Nat.div_eq_of_lt hlt, Nat.mod_eq_of_lt hlt, dg_zero]
  have f10 := fs6.ext c9
  exact ⟨_, _, rfl, (Own.mono f10 (by omega) (by omega)), (Own.mono os_9 (by omega) (by omega)), ((c4.t cs6).t c9)⟩
 rw [cmpL_dg] at h17
 have hge := Nat.le_of_not_lt (mt cmpN_neg.2 h17)
 have hab := len_le hge
 have hb0 := len_pos.2 hn0
 refine sx_skip ?_
 refine q_n (k2 _ _ ?_)
 refine sx_seq fun K11 k11 => ?_
 refine sx_seq fun K12 k12 => sx_region ?_
 refine mv rfl rfl ?_
 have f13 := hvb0.ext c4
 refine sp rfl (px_len rfl Tryz.underlying28 f13) ?_
 refine sp rfl (px_eq rfl rfl) ?_
 refine wl_nil (q_n (k12 _ _ ?_))
 refine sx_condP rfl (fun h20 => ?_) (fun h20 => ?_)
 ·
  refine sx_seq fun K14 k14 => sx_region ?_
  refine mv rfl rfl (mv rfl rfl (sp rfl (px_index1 (j := 0) rfl rfl (by omega) Tryz.underlying28 Tryz.sizeOf3 f13 (by omega)) ?_))
  refine sp rfl (px_load rfl (f13.load1 (at_int (by omega)) Tryz.isAgg3)) ?_
  have f15 := hva0.ext c4
  refine sx_call rfl rfl Tryz.call79 (c_natSmall f15 (by omega) (by have h9 := one_limb (n := n) (by omega); omega)) (fun v16 w16 p16 => ?_)
  obtain ⟨s16, rfl, os_16, c16⟩ := p16
  have zw16 := c16.size
  refine mv rfl rfl (sp rfl (px_ex2 rfl rfl) ?_)
  refine sp rfl (px_ex2 rfl rfl) ?_
  refine av rfl rfl (av rfl rfl (wl_nil (q_n (k14 _ _ ?_))))
  refine sx_sub (Sub.c 0 rfl (.c 1 rfl (.c 4 rfl (.c 5 rfl (.c 6 rfl (.c 7 rfl .nil)))))) ?_
  refine sx_seq fun K17 k17 => sx_region ?_
  refine mv rfl rfl (mv rfl rfl (sx_call rfl rfl Tryz.call80 (c_iNatOf (by have h9 := one_limb (n := n) (by omega); have h8 := Nat.mod_lt m (show 0 < ((dg n).getD 0 0).toNat by omega); omega)) (fun v18 w18 p18 => ?_)))
  obtain ⟨s18, rfl, os_18, c18⟩ := p18
  have zw18 := c18.size
  refine av rfl rfl (av rfl rfl (wl_nil (q_n (k17 _ _ ?_))))
  refine sx_retc ?_
  refine q_r (sx_ret2 Tryz.results52 rfl rfl ?_)
  have e1 := (one_limb (n := n) (by omega)).1
  have f19 := os_16.ext c18
  have r1 := f19
  have r2 := os_18
  rw [Int.toNat_natCast] at r2
  rw [e1] at r1 r2
  exact ⟨_, _, rfl, r1.mono (by omega) (by omega), r2.mono (by omega) (by omega), ((c4.t c16).t c18)⟩
 refine sx_skip ?_
 refine q_n (k11 _ _ ?_)
 refine sx_seq fun K20 k20 => sx_region ?_
 refine mv rfl rfl (mv rfl rfl (sp rfl (px_len rfl Tryz.underlying28 f13) ?_))
 refine sp rfl (px_sub rfl rfl (by omega)) ?_
 refine sp rfl (px_index1 (j := ((dg n).length - 1)) rfl rfl (by omega) Tryz.underlying28 Tryz.sizeOf3 f13 (by omega)) ?_
 refine sp rfl (px_load rfl (f13.load1 (at_int (by omega)) Tryz.isAgg3)) ?_
 refine sp rfl (px_add rfl rfl (by omega)) ?_
 refine sp rfl (px_quo rfl rfl (by omega) (by omega) (by omega)) ?_
 refine av rfl rfl (wl_nil (q_n (k20 _ _ ?_)))
 refine sx_sub (Sub.c 0 rfl (.c 1 rfl (.c 4 rfl (.c 5 rfl (.c 8 rfl .nil))))) ?_
 refine sx_seq fun K21 k21 => ?_
 have hsb := scale_bd htp (by omega)
 generalize 1000000000 / (((dg n).getD ((dg n).length - 1) 0) + 1) = s at *
 have evs : vl [s] = s.toNat := by simp [vl]
 have hpos : 0 < n * s.toNat := Nat.mul_pos hn0 (by omega)
 refine sx_region ?_
 refine mv rfl rfl (mv rfl rfl ?_)
 refine sx_lit1 rfl xelt28 rfl rfl (fun s22 ws22 ss22 fs22 cs22 => ?_)
 have ns22 := Own.norm (f := (Value.int .i64)) (zs := [s]) fs22
 have zws22 := cs22.size
 have f24 := (hva0.ext c4).ext cs22
 refine sx_call rfl rfl Tryz.call21 (c_natMulS f24 ns22.sv (by omega) (by simp only [List.length_cons, List.length_nil]; omega) (one_dg (by omega) (by omega))) (fun v25 w25 p25 => ?_)
 obtain ⟨s25, rfl, os_25, c25⟩ := p25
 have zw25 := c25.size
 refine av rfl rfl (wl_nil (q_n (k21 _ _ ?_)))
 refine sx_seq fun K26 k26 => ?_
 have f27 := os_25
 rw [evs] at f27
 refine sx_region ?_
 refine mv rfl rfl (mv rfl rfl ?_)
 refine sx_lit1 rfl xelt28 rfl rfl (fun s28 ws28 ss28 fs28 cs28 => ?_)
 have ns28 := Own.norm (f := (Value.int .i64)) (zs := [s]) fs28
 have zws28 := cs28.size
 have f29 := f13.ext cs22
 have f31 := (f29.ext c25).ext cs28
 refine sx_call rfl rfl Tryz.call21 (c_natMulS f31 ns28.sv (by omega) (by simp only [List.length_cons, List.length_nil]; omega) (one_dg (by omega) (by omega))) (fun v32 w32 p32 => ?_)
 obtain ⟨s32, rfl, os_32, c32⟩ := p32
 have zw32 := c32.size
 refine av rfl rfl (wl_nil (q_n (k26 _ _ ?_)))
 refine sx_sub (Sub.c 0 rfl (.c 4 rfl (.c 5 rfl (.c 8 rfl (.c 9 rfl (.c 10 rfl .nil)))))) ?_
 refine sx_seq fun K33 k33 => ?_
 refine sx_block ?_
 have f34 := os_32
 rw [evs] at f34
 have hlv := scale_len hn0 hsb.1 hsb.2.2
 have hlu := len_mul m s.toNat
 have hl1 : (dg s.toNat).length ≤ 1 := dg_len_le (by simp only [Bs]; omega)
 have f36 := f27.ext cs28
 have f37 := f36.ext c32
 refine sx_loop (fun mm aa w' => ∃ (su : Value) (us : List Int) (gl : Nat) (gh : Nat), Agr 97 [(0, va), (8, .int .i64 s), (9, su), (10, v32)] aa ∧ Chg ws22.heap.size w32.heap.size w32 w' ∧ Own w' gl gh su intT us.length 1 (us.map (Value.int .i64)) ∧ Own w' ws28.heap.size w32.heap.size v32 intT ((dg (n * s.toNat)).length) 1 ((dg (n * s.toNat)).map (Value.int .i64)) ∧ (mm = (dg m).length + 1 - us.length) ∧ ((gl = ws22.heap.size ∧ gh = w25.heap.size) ∨ w32.heap.size ≤ gl) ∧ (gl ≤ w'.heap.size ∧ gh ≤ w'.heap.size) ∧ (Lm us) ∧ (vl us = m * s.toNat) ∧ (us.length ≤ (dg m).length + 1)) (_) (fun a ha => ⟨v25, dg (m * s.toNat), ws22.heap.size, w25.heap.size, ha.sub (Sub.c 0 rfl (.c 8 rfl (.c 9 rfl (.c 10 rfl .nil)))), Chg.refl _ _ _, f37, f34, rfl, .inl ⟨rfl, rfl⟩, by omega, Lm_dg _, vl_dg _, by omega⟩) ?_
 rintro mm aa wl35 ⟨su, us, gl, gh, hAwl35, cwl35, hs_su, hs_v32, hm, hgl, hgh, hlm, hv, hul⟩
 refine (show cw Tryz.prog 97 _ _ _ wl35 from ?_) aa hAwl35
 clear hAwl35
 have zwl35 := cwl35.size
 refine sx_seq fun K38 k38 => ?_
 refine sx_seq fun K39 k39 => sx_region ?_
 refine mv rfl rfl (sp rfl (px_len rfl Tryz.underlying28 hs_su.sv) ?_)
 refine mv rfl rfl ?_
 have f41 := (f24.ext c25).ext cs28
 have f43 := (f41.ext c32).chg cwl35 (by omega)
 refine sp rfl (px_len rfl Tryz.underlying28 f43) ?_
 refine sp rfl (px_le rfl rfl) ?_
 refine wl_nil (q_n (k39 _ _ ?_))
 refine sx_condP rfl (fun h27 => ?_) (fun h27 => ?_)
 ·
  refine sx_skip ?_
  refine q_n (k38 _ _ ?_)
  refine sx_block ?_
  refine sx_region ?_
  refine mv rfl rfl ?_
  refine sx_lit1 rfl xelt28 rfl rfl (fun s44 ws44 ss44 fs44 cs44 => ?_)
  have ns44 := Own.norm (f := (Value.int .i64)) (zs := [0]) fs44
  have zws44 := cs44.size
  have f46 := hs_su.ext cs44
  refine sx_append2 rfl xelt28 rfl rfl f46 ns44.sv (by simp) one_int (by omega) (by simp only [List.length_cons, List.length_nil]; omega) (by unfold maxLen; simp only [List.length_cons, List.length_nil]; omega) (fun a45 w45 alw45 ahw45 adw45 fw45 cw45 => ?_)
  have nw45 := Own.app (f := (Value.int .i64)) (a := us) (b := [0]) fw45
  have zw45 := cw45.size
  refine av rfl rfl (wl_nil ?_)
  have q47 := Chg.step (l := ws22.heap.size) (h := w32.heap.size) cwl35 cs44 (by omega)
  have q48 := Chg.step (l := ws22.heap.size) (h := w32.heap.size) q47 cw45 (by omega)
  have f49 := hs_v32.ext cs44
  have f50 := f49.chg cw45 (by omega)
  have happ : (us ++ ([0])).length = us.length + 1 := by simp
  exact q_bn (fun a ha => ⟨_, by omega, a45, (us ++ ([0])), alw45, ahw45, ha.sub (Sub.c 0 rfl (.c 8 rfl (.c 9 rfl (.c 10 rfl .nil)))), q48, (nw45.mono (by omega) (by omega)), (f50.mono (by omega) (by omega)), rfl, by omega, by omega, hlm.append (Lm.single (by decide) (by decide)), by rw [vl_concat]; simpa using hv, by simp only [List.length_append, List.length_cons, List.length_nil]; omega⟩)
 refine sx_exit ?_
 refine q_e (q_e (q_bx (q_n (k33 _ _ ?_))))
 refine sx_seq fun K51 k51 => ?_
 have hul2 : us.length = (dg m).length + 1 := by omega
 refine sx_region ?_
 refine mv rfl rfl (sp rfl (px_len rfl Tryz.underlying28 hs_v32.sv) ?_)
 refine av rfl rfl (wl_nil (q_n (k51 _ _ ?_)))
 refine sx_seq fun K52 k52 => sx_region ?_
 refine mv rfl rfl (sp rfl (px_len rfl Tryz.underlying28 hs_su.sv) ?_)
 refine mv rfl rfl (sp rfl (px_sub rfl rfl (by omega)) ?_)
 refine sx_make (c := (us.length - (dg (n * s.toNat)).length)) rfl xelt28 (look_int rfl (by omega)) (look_int rfl (by omega)) (by omega) (by unfold maxLen; omega) (fun s53 ws53 fs53 cs53 ls53 => ?_)
 have ns53 := fs53.made
 have zws53 := cs53.size
 refine av rfl rfl (wl_nil (q_n (k52 _ _ ?_)))
 refine sx_sub (Sub.c 8 rfl (.c 9 rfl (.c 10 rfl (.c 11 rfl (.c 12 rfl .nil))))) ?_
 refine sx_seq fun K54 k54 => ?_
 refine sx_seq fun K55 k55 => ?_
 have hrl : (List.replicate (us.length - (dg (n * s.toNat)).length) (0 : Int)).length = us.length - (dg (n * s.toNat)).length := List.length_replicate
 refine sx_region ?_
 refine mv rfl rfl (sp rfl (px_len rfl Tryz.underlying28 ns53.sv) ?_)
 refine sp rfl (px_sub rfl rfl (by omega)) ?_
 refine av rfl rfl (wl_nil (q_n (k55 _ _ ?_)))
 refine sx_block ?_
 have f57 := hs_su.ext cs53
 have f58 := hs_v32.ext cs53
 refine sx_loop (fun mm aa w' => ∃ (k : Nat) (U : List Int) (qs : List Int), Agr 97 [(8, .int .i64 s), (9, su), (10, v32), (11, .int .i64 (↑(dg (n * s.toNat)).length)), (12, s53), (13, .int .i64 (↑k - 1))] aa ∧ Chg ws22.heap.size ws53.heap.size ws53 w' ∧ Own w' gl gh su intT U.length 1 (U.map (Value.int .i64)) ∧ Own w' wl35.heap.size ws53.heap.size s53 intT qs.length 1 (qs.map (Value.int .i64)) ∧ Own w' ws28.heap.size w32.heap.size v32 intT ((dg (n * s.toNat)).length) 1 ((dg (n * s.toNat)).map (Value.int .i64)) ∧ (mm = k) ∧ (k ≤ ((dg m).length + 1 - (dg n).length)) ∧ (qs.length = ((dg m).length + 1 - (dg n).length)) ∧ (U.length = (dg m).length + 1) ∧ (Lm U) ∧ (Lm qs) ∧ (vl (U.drop k) < n * s.toNat) ∧ (m * s.toNat = vl U + Bs ^ k * (n * s.toNat * vl (qs.drop k)))) (_) (fun a ha => ⟨((dg m).length + 1 - (dg n).length), us, List.replicate (us.length - (dg (n * s.toNat)).length) 0, ha.sub (Sub.c 8 rfl (.c 9 rfl (.c 10 rfl (.c 11 (look_int (t := 11) rfl (by first | omega | (simp only [List.length_replicate]; omega) | simp)) (.c 12 rfl (.c 13 (look_int (t := 13) rfl (by first | omega | (simp only [List.length_replicate]; omega) | simp)) .nil)))))), Chg.refl _ _ _, f57, ns53, f58, rfl, by omega, by rw [List.length_replicate]; omega, by omega, by omega, Lm.replicate _, top_init hul2 rfl rfl (len_pos.2 hn0) (by omega) (by omega) hv, by rw [vl_drop_end (by rw [List.length_replicate]; omega)]; simpa using hv.symm⟩) ?_
 rintro mm aa wl56 ⟨k, U, qs, hAwl56, cwl56, hs_su, hs_s53, hs_v32, hm, hk, hql, hUl, hUm, hQm, htp, hV⟩
 refine (show cw Tryz.prog 97 _ _ _ wl56 from ?_) aa hAwl56
 clear hAwl56
 have zwl56 := cwl56.size
 refine sx_seq fun K59 k59 => ?_
 refine sx_seq fun K60 k60 => sx_region ?_
 refine mv rfl rfl (sp rfl (px_ge rfl rfl) ?_)
 refine wl_nil (q_n (k60 _ _ ?_))
 refine sx_condP rfl (fun h32 => ?_) (fun h32 => ?_)
 ·
  refine sx_skip ?_
  refine q_n (k59 _ _ ?_)
  refine sx_seq fun K61 k61 => ?_
  refine sx_block ?_
  have hw := win_of (j := k - 1) (n := (dg (n * s.toNat)).length) hUm (by omega) (lt_of_dg_len (Nat.le_refl _)) (by rw [Nat.sub_add_cancel (by omega)]; exact htp)
  refine sx_region ?_
  refine mv rfl rfl (mv rfl rfl (mv rfl rfl (mv rfl rfl (mv rfl rfl ?_))))
  refine mv rfl rfl (sp rfl (px_add rfl rfl (by omega)) ?_)
  refine sp rfl (px_add rfl rfl (by omega)) ?_
  obtain ⟨suf62, hw62, hb62⟩ := Own.win hs_su (a := (k - 1)) (b := (k - 1 + (dg (n * s.toNat)).length + 1)) (by omega) (by omega)
  refine sp rfl (px_sliceMid (l := (k - 1)) (h := (k - 1 + (dg (n * s.toNat)).length + 1)) rfl rfl rfl (by omega) (by omega) Tryz.underlying28 Tryz.sizeOf3 hs_su.sv (by omega) (by omega)) ?_
  refine mv rfl rfl (sx_call rfl rfl Tryz.call81 (c_divStep hw62 hs_v32.sv (by omega) (by rw [List.length_take, List.length_drop]; omega) (by omega) (Lm.take (Lm.drop hUm _) _) (Lm_dg _) (dg_getD_pos hpos rfl) (by rw [vl_dg, hw.1]; exact hw.2.1) (by rw [List.length_take, List.length_drop]; omega)) (fun v63 w63 p63 => ?_))
  obtain ⟨os63, rfl, ova_63, hs63, c63⟩ := p63
  have zw63 := c63.size
  have f64 := hb62 _ _ ova_63
  have hol := hs63.2.1
  rw [List.length_take, List.length_drop] at hol
  have hdl := hs63.1
  have hp := div_put (us := U) (qs := qs) (ys := os63) (n := (dg (n * s.toNat)).length) (V := n * s.toNat) (by omega) (by omega) (by omega) rfl hw.2.2 (by omega) (by rw [hs63.2.2, hw.1, vl_dg]) hV
  have hqd : vl ((U.drop (k - 1)).take (k - 1 + (dg (n * s.toNat)).length + 1 - (k - 1))) / vl (dg (n * s.toNat)) < 1000000000 := by rw [hw.1, vl_dg]; exact (Nat.div_lt_iff_lt_mul hpos).2 hw.2.1
  have hqn : (0 : Int) ≤ ((vl ((U.drop (k - 1)).take (k - 1 + (dg (n * s.toNat)).length + 1 - (k - 1))) / vl (dg (n * s.toNat)) : Nat) : Int) := Int.natCast_nonneg _
  have f65 := hs_s53.chg c63 (by omega)
  refine sp rfl (px_index1 (j := (k - 1)) rfl rfl (by omega) Tryz.underlying28 Tryz.sizeOf3 f65.sv (by omega)) ?_
  refine sx_storeO rfl rfl f65 (by first | omega | (simp only [List.length_map]; omega)) Tryz.sizeOf3 rfl (fun w66 sw66 fw66 cw66 => ?_)
  have zw66 := cw66.size
  have nw66 := fw66.set
  refine wl_nil ?_
  refine q_bn (q_n (k61 _ _ ?_))
  refine sx_sub (Sub.c 8 rfl (.c 9 rfl (.c 10 rfl (.c 11 rfl (.c 12 rfl (.c 13 rfl .nil)))))) ?_
  refine sx_region ?_
  refine mv rfl rfl (sp rfl (px_sub rfl rfl (by omega)) ?_)
  refine av rfl rfl (wl_nil ?_)
  have q67 := Chg.step (l := ws22.heap.size) (h := ws53.heap.size) cwl56 c63 (by omega)
  have q68 := Chg.step (l := ws22.heap.size) (h := ws53.heap.size) q67 cw66 (by omega)
  have f69 := f64.chg cw66 (by omega)
  have f71 := (hs_v32.chg c63 (by omega)).chg cw66 (by omega)
  exact fun a ha => ⟨_, by omega, (k - 1), (U.take (k - 1) ++ os63 ++ U.drop (k - 1 + (dg (n * s.toNat)).length + 1)), ((qs).set (k - 1) ((vl ((U.drop (k - 1)).take ((k - 1 + (dg (n * s.toNat)).length + 1) - (k - 1))) / vl (dg (n * s.toNat)) : Nat) : Int)), ha.sub (Sub.c 8 rfl (.c 9 rfl (.c 10 rfl (.c 11 rfl (.c 12 rfl (.c 13 (look_int (t := 13) rfl (by first | omega | (simp only [List.length_replicate]; omega) | simp)) .nil)))))), q68, (f69.mono (by omega) (by omega)), (nw66.mono (by omega) (by omega)), (f71.mono (by omega) (by omega)), rfl, by omega, by rw [List.length_set]; exact hql, by simp only [List.length_append, List.length_take, List.length_drop]; omega, ((hUm.take _).append hdl).append (Lm.drop hUm _), hQm.set _ (by omega) (by omega), by rw [hp.1]; exact Nat.mod_lt _ hpos, by rw [hw.1, vl_dg]; exact hp.2⟩
 refine sx_exit ?_
 refine q_e (q_e (q_bx (q_n (k54 _ _ ?_))))
 refine sx_seq fun K72 k72 => ?_
 have ek : k = 0 := by omega
 subst ek
 rw [List.drop_zero] at hV htp
 have hse := scaled_end (s := s.toNat) (by omega) hn0 hV htp
 have e1 : vl U / s.toNat = m % n := by rw [hse.2, Nat.mul_div_cancel _ (by omega)]
 refine sx_region ?_
 refine mv rfl rfl (sx_call rfl rfl Tryz.call51 (c_trim hs_su (by assumption) (by first | omega | (simp only [List.length_append, List.length_set, List.length_replicate, List.length_cons, List.length_nil] at *; omega))) (fun v73 w73 p73 => ?_))
 obtain ⟨s73, rfl, os_73, c73⟩ := p73
 have zw73 := c73.size
 refine mv rfl rfl (sx_call rfl rfl Tryz.call79 (c_natSmall os_73.sv (Nat.le_trans (dg_len_le (vl_lt hUm)) (by omega)) (by omega)) (fun v74 w74 p74 => ?_))
 obtain ⟨s74, rfl, os_74, c74⟩ := p74
 have zw74 := c74.size
 refine mv rfl rfl (sp rfl (px_ex2 rfl rfl) ?_)
 refine sp rfl (px_ex2 rfl rfl) ?_
 refine av rfl rfl (av rfl rfl (wl_nil (q_n (k72 _ _ ?_))))
 refine sx_sub (Sub.c 12 rfl (.c 14 rfl .nil)) ?_
 refine sx_seq fun K75 k75 => sx_region ?_
 refine mv rfl rfl ?_
 have f77 := (hs_s53.ext c73).ext c74
 refine sx_call rfl rfl Tryz.call51 (c_trim f77 (by assumption) (by first | omega | (simp only [List.length_append, List.length_set, List.length_replicate, List.length_cons, List.length_nil] at *; omega))) (fun v78 w78 p78 => ?_)
 obtain ⟨s78, rfl, os_78, c78⟩ := p78
 have zw78 := c78.size
 refine mv rfl rfl (av rfl rfl (av rfl rfl (wl_nil (q_n (k75 _ _ ?_)))))
 refine sx_retc ?_
 refine sx_ret2 Tryz.results52 rfl rfl ?_
 have r1 := os_78
 have f79 := os_74.ext c78
 have r2 := f79
 rw [hse.1] at r1
 rw [e1] at r2
 have q80 := Chg.step (l := 0) (h := 0) (Chg.zero (l := 0) (h := 0) ((((c4.t cs22).t c25).t cs28).t c32)) cwl35 (by omega)
 have q81 := Chg.step (l := 0) (h := 0) q80 cs53 (by omega)
 have q82 := Chg.step (l := 0) (h := 0) q81 cwl56 (by omega)
 have q83 := Chg.step (l := 0) (h := 0) q82 ((c73.t c74).t c78) (by omega)
 exact ⟨_, _, rfl, r1.mono (by omega) (by omega), r2.mono (by omega) (by omega), q83⟩

theorem c_natGcd {w : World} {va : Value} {lva uva : Nat} {m : Nat} {vb : Value} {lvb uvb : Nat} {n : Nat} (hva : Sl w lva uva va (dg m)) (hvb : Sl w lvb uvb vb (dg n)) (hbm : (dg m).length ≤ 400) (hbn : (dg n).length ≤ 400) :
  Ret Tryz.prog 78 [va, vb] w fun v w' => ∃ s, v = s ∧ OwnI w' w.heap.size w'.heap.size s intT (dg (Nat.gcd m n)) ∧ Chg 0 0 w w' := by
 have hva0 := hva.fit
 have hvb0 := hvb.fit
 refine sx_enter Tryz.func78 rfl Tryz.ntmps78 (nbl rfl) ?_
 refine sx_seq fun K1 k1 => sx_region ?_
 refine av rfl rfl (wl_nil (q_n (k1 _ _ ?_)))
 refine sx_seq fun K2 k2 => ?_
 refine sx_block ?_
 refine sx_loop (fun mm aa w' => ∃ (xa : Value) (xb : Value) (m2 : Nat) (n2 : Nat), Agr 20 [(0, xa), (1, xb)] aa ∧ Chg 0 0 w w' ∧ Sv w' 0 w'.heap.size xa ((dg m2).length) 1 ((dg m2).map (Value.int .i64)) ∧ Sv w' 0 w'.heap.size xb ((dg n2).length) 1 ((dg n2).map (Value.int .i64)) ∧ (mm = n2) ∧ (Nat.gcd m2 n2 = Nat.gcd m n) ∧ ((dg m2).length ≤ 400 ∧ (dg n2).length ≤ 400)) (_) (fun a ha => ⟨va, vb, m, n, ha.sub (Sub.c 0 rfl (.c 1 rfl .nil)), Chg.refl _ _ _, (hva0.mono (by omega) (by omega)), (hvb0.mono (by omega) (by omega)), rfl, rfl, by omega⟩) ?_
 rintro mm aa wl3 ⟨xa, xb, m2, n2, hAwl3, cwl3, hs_xa, hs_xb, hm, hg, hl2⟩
 refine (show cw Tryz.prog 20 _ _ _ wl3 from ?_) aa hAwl3
 clear hAwl3
 have zwl3 := cwl3.size
 refine sx_seq fun K4 k4 => ?_
 refine sx_seq fun K5 k5 => sx_region ?_
 refine mv rfl rfl (sp rfl (px_len rfl Tryz.underlying28 hs_xb) ?_)
 refine sp rfl (px_gt rfl rfl) ?_
 refine wl_nil (q_n (k5 _ _ ?_))
 refine sx_condP rfl (fun h91 => ?_) (fun h91 => ?_)
 ·
  have hn0 : 0 < n2 := len_pos.1 (by omega)
  refine sx_skip ?_
  refine q_n (k4 _ _ ?_)
  refine sx_block ?_
  refine sx_seq fun K6 k6 => sx_region ?_
  refine mv rfl rfl (mv rfl rfl (sx_call rfl rfl Tryz.call52 (c_natDiv hs_xa hs_xb (by omega) (by omega) (by omega)) (fun v7 w7 p7 => ?_)))
  obtain ⟨s7, t7, rfl, os_7, ot_7, c7⟩ := p7
  have zw7 := c7.size
  refine mv rfl rfl (sp rfl (px_ex2 rfl rfl) ?_)
  refine sp rfl (px_ex2 rfl rfl) ?_
  refine av rfl rfl (av rfl rfl (wl_nil (q_n (k6 _ _ ?_))))
  refine sx_region ?_
  refine mv rfl rfl (mv rfl rfl (av rfl rfl (av rfl rfl (wl_nil ?_))))
  have f8 := hs_xb.ext c7
  have hml := Nat.mod_lt m2 hn0
  have hll := len_mod (m := m2) hn0
  exact q_bn (fun a ha => ⟨_, by omega, xb, t7, n2, (m2 % n2), ha.sub (Sub.c 0 rfl (.c 1 rfl .nil)), (cwl3.t c7), (f8.mono (by omega) (by omega)), (ot_7.sv.mono (by omega) (by omega)), rfl, gcd_next.trans hg, by omega⟩)
 refine sx_exit ?_
 refine q_e (q_e (q_bx (q_n (k2 _ _ ?_))))
 refine sx_seq fun K9 k9 => sx_region ?_
 refine mv rfl rfl (sx_call rfl rfl Tryz.call63 (c_natCopy hs_xa (by omega)) (fun v10 w10 p10 => ?_))
 obtain ⟨s10, rfl, os_10, c10⟩ := p10
 have zw10 := c10.size
 refine av rfl rfl (wl_nil (q_n (k9 _ _ ?_)))
 refine sx_retc ?_
 refine sx_ret1 Tryz.results78 rfl ?_
 have e0 : n2 = 0 := len_zero.1 (by omega)
 subst e0
 rw [Nat.gcd_zero_right] at hg
 rw [← hg]
 exact ⟨_, rfl, (Own.mono os_10 (by omega) (by omega)), (cwl3.t c10)⟩

theorem c_reduce {w : World} {n : Bool} {va : Value} {lva uva : Nat} {m : Nat} {vb : Value} {lvb uvb : Nat} {d : Nat} (hva : Sl w lva uva va (dg m)) (hvb : Sl w lvb uvb vb (dg d)) (hbm : (dg m).length ≤ 400) (hbd : (dg d).length ≤ 400) (hd0 : 0 < d) :
  Ret Tryz.prog 50 [.agg #[.bool n, va], vb] w fun v w' => ∃ s t ls us lt ut, v = .tuple #[.agg #[.bool ((rR (sgI n m) d).1), s, t], .bool ((rR (sgI n m) d).2.2.2)] ∧ OwnI w' (ls) (us) s intT ((rR (sgI n m) d).2.1) ∧ OwnI w' (lt) (ut) t intT ((rR (sgI n m) d).2.2.1) ∧ (w.heap.size ≤ ls ∧ us ≤ w'.heap.size ∧ w.heap.size ≤ lt ∧ ut ≤ w'.heap.size ∧ (us ≤ lt ∨ ut ≤ ls)) ∧ ((rR (sgI n m) d).2.1.length ≤ 18 ∧ (rR (sgI n m) d).2.2.1.length ≤ 18) ∧ Chg 0 0 w w' := by
 have hva0 := hva.fit
 have hvb0 := hvb.fit
 have hgp := gcd_pos_r (m := m) hd0
 have lg := gcd_le_left (m := m) (n := d) (k := max (dg m).length (dg d).length) (by omega) (by omega)
 have lq1 := len_div m (Nat.gcd m d)
 have lq2 := len_div d (Nat.gcd m d)
 refine sx_enter Tryz.func50 rfl Tryz.ntmps50 (nbl rfl) ?_
 refine sx_seq fun K1 k1 => sx_region ?_
 refine sx_box [.bool n, va] rfl rfl rfl (fun b2 w3 eb2 sb2 fb2 cb2 => ?_)
 have zw3 := cb2.size
 refine sx_alloc [.bool false, (.slice none 0 0), (.slice none 0 0)] rfl Tryz.zeroValue38 rfl (fun b4 w5 eb4 sb4 fb4 cb4 => ?_)
 have zw5 := cb4.size
 refine av rfl rfl (wl_nil (q_n (k1 _ _ ?_)))
 refine sx_seq fun K6 k6 => sx_region ?_
 refine sp rfl (px_field rfl xfld30x1) ?_
 have f7 := fb2.ext cb4
 refine sp rfl (px_load rfl (f7.load1 rfl Tryz.isAgg28)) ?_
 refine mv rfl rfl ?_
 have f8 := hva0.ext cb2
 have f9 := f8.ext cb4
 have f10 := hvb0.ext cb2
 have f11 := f10.ext cb4
 refine sx_call rfl rfl Tryz.call78 (c_natGcd f9 f11 (by omega) (by omega)) (fun v12 w12 p12 => ?_)
 obtain ⟨s12, rfl, os_12, c12⟩ := p12
 have zw12 := c12.size
 refine av rfl rfl (wl_nil (q_n (k6 _ _ ?_)))
 refine sx_seq fun K13 k13 => sx_region ?_
 refine sp rfl (px_field rfl xfld30x1) ?_
 have f14 := f7.ext c12
 refine sp rfl (px_load rfl (f14.load1 rfl Tryz.isAgg28)) ?_
 refine mv rfl rfl ?_
 have f15 := f9.ext c12
 refine sx_call rfl rfl Tryz.call52 (c_natDiv f15 os_12.sv (by omega) (by omega) (hgp)) (fun v16 w16 p16 => ?_)
 obtain ⟨s16, t16, rfl, os_16, ot_16, c16⟩ := p16
 have zw16 := c16.size
 refine mv rfl rfl (sp rfl (px_ex2 rfl rfl) ?_)
 refine sp rfl (px_ex2 rfl rfl) ?_
 refine av rfl rfl (av rfl rfl (wl_nil (q_n (k13 _ _ ?_))))
 refine sx_sub (Sub.c 1 rfl (.c 2 rfl (.c 4 rfl (.c 5 rfl (.c 6 rfl (.c 7 rfl .nil)))))) ?_
 refine sx_seq fun K17 k17 => sx_region ?_
 refine mv rfl rfl (mv rfl rfl ?_)
 have f19 := (f11.ext c12).ext c16
 have f20 := os_12.ext c16
 refine sx_call rfl rfl Tryz.call52 (c_natDiv f19 f20.sv (by omega) (by omega) (hgp)) (fun v21 w21 p21 => ?_)
 obtain ⟨s21, t21, rfl, os_21, ot_21, c21⟩ := p21
 have zw21 := c21.size
 refine mv rfl rfl (sp rfl (px_ex2 rfl rfl) ?_)
 refine sp rfl (px_ex2 rfl rfl) ?_
 refine av rfl rfl (av rfl rfl (wl_nil (q_n (k17 _ _ ?_))))
 refine sx_seq fun K22 k22 => ?_
 refine sx_seq fun K23 k23 => sx_region ?_
 refine mv rfl rfl ?_
 have f24 := os_16.ext c21
 refine sp rfl (px_len rfl Tryz.underlying28 f24.sv) ?_
 refine sp rfl (px_gt rfl rfl) ?_
 refine mv rfl rfl ?_
 refine sx_tmpP (t := 31) rfl (fun h26 => ?_) (fun h26 => ?_)
 ·
  refine sx_guardF rfl rfl rfl rfl rfl rfl ?_
  refine sx_guardF rfl rfl rfl rfl rfl rfl ?_
  refine sx_guardF rfl rfl rfl rfl rfl rfl ?_
  refine sp rfl (px_pick rfl rfl) ?_
  refine wl_nil (q_n (k23 _ _ ?_))
  refine sx_sub (Sub.c 2 rfl (.c 4 rfl (.c 5 rfl (.c 7 rfl (.c 9 rfl (.c 35 rfl .nil)))))) ?_
  refine sx_condT rfl ?_
  refine sx_seq fun K25 k25 => sx_region ?_
  refine sp rfl (px_build rfl (xbld38x  _)) ?_
  have f29 := ((fb4.ext c12).ext c16).ext c21
  refine sx_store (vs := [.bool false, (.slice none 0 0), (.slice none 0 0)]) rfl rfl f29 rfl Tryz.sizeOf38 (nbl rfl) (o3 rfl rfl rfl) (fun w26 sw26 fw26 cw26 => ?_)
  have zw26 := cw26.size
  have gw26 : Blk w26 b4 [.bool false, (.slice none 0 0), (.slice none 0 0)] 38 := fw26
  refine av rfl rfl (wl_nil (q_n (k25 _ _ ?_)))
  refine sx_retc ?_
  refine q_r (sx_ret2 Tryz.results50 ⟨_, rfl, gw26.loadA (vs := [.bool false, (.slice none 0 0), (.slice none 0 0)]) (look_lit rfl) Tryz.isAgg38 Tryz.sizeOf38⟩ rfl ?_)
  rw [rR_no (fun h => by omega)]
  have q30 := Chg.step (l := 0) (h := 0) (Chg.zero (l := 0) (h := 0) ((((cb2.t cb4).t c12).t c16).t c21)) cw26 (by omega)
  exact ⟨_, _, w.heap.size, w.heap.size, w.heap.size, w.heap.size, rfl, Own.nil _ _ _ _ _, Own.nil _ _ _ _ _, by omega, ⟨by simp [noR], by simp [noR]⟩, q30⟩
 refine sx_guardT rfl rfl rfl ?_
 refine mv rfl rfl ?_
 refine sx_guardT rfl rfl rfl ?_
 refine sp rfl (px_len rfl Tryz.underlying28 os_21.sv) ?_
 refine sx_guardT rfl rfl rfl ?_
 refine sp rfl (px_gt rfl rfl) ?_
 refine sp rfl (px_pick rfl rfl) ?_
 refine wl_nil (q_n (k23 _ _ ?_))
 refine sx_sub (Sub.c 2 rfl (.c 4 rfl (.c 5 rfl (.c 7 rfl (.c 9 rfl (.c 35 rfl .nil)))))) ?_
 refine sx_condP rfl (fun h26x1 => ?_) (fun h26x1 => ?_)
 ·
  refine sx_seq fun K31 k31 => sx_region ?_
  refine sp rfl (px_build rfl (xbld38x  _)) ?_
  have f35 := ((fb4.ext c12).ext c16).ext c21
  refine sx_store (vs := [.bool false, (.slice none 0 0), (.slice none 0 0)]) rfl rfl f35 rfl Tryz.sizeOf38 (nbl rfl) (o3 rfl rfl rfl) (fun w32 sw32 fw32 cw32 => ?_)
  have zw32 := cw32.size
  have gw32 : Blk w32 b4 [.bool false, (.slice none 0 0), (.slice none 0 0)] 38 := fw32
  refine av rfl rfl (wl_nil (q_n (k31 _ _ ?_)))
  refine sx_retc ?_
  refine q_r (sx_ret2 Tryz.results50 ⟨_, rfl, gw32.loadA (vs := [.bool false, (.slice none 0 0), (.slice none 0 0)]) (look_lit rfl) Tryz.isAgg38 Tryz.sizeOf38⟩ rfl ?_)
  rw [rR_no (fun h => by omega)]
  have q36 := Chg.step (l := 0) (h := 0) (Chg.zero (l := 0) (h := 0) ((((cb2.t cb4).t c12).t c16).t c21)) cw32 (by omega)
  exact ⟨_, _, w.heap.size, w.heap.size, w.heap.size, w.heap.size, rfl, Own.nil _ _ _ _ _, Own.nil _ _ _ _ _, by omega, ⟨by simp [noR], by simp [noR]⟩, q36⟩
 refine sx_skip ?_
 refine q_n (k22 _ _ ?_)
 refine sx_seq fun K37 k37 => sx_region ?_
 refine sp rfl (px_field rfl xfld30x0) ?_
 have f39 := (f14.ext c16).ext c21
 refine sp rfl (px_load rfl (f39.load1 rfl Tryz.isAgg4)) ?_
 refine mv rfl rfl (sx_call rfl rfl Tryz.call20 (c_signed f24.sv (by omega)) (fun v40 w40 p40 => ?_))
 obtain ⟨rfl, c40⟩ := p40
 have zw40 := c40.size
 refine mv rfl rfl ?_
 have f41 := os_21.ext c40
 refine sp rfl (px_build rfl (xbld38x0x1 f41.one _)) ?_
 have f46 := (((fb4.ext c12).ext c16).ext c21).ext c40
 have f47 := f24.ext c40
 refine sx_store (vs := [.bool (nz n (dg (m / (Nat.gcd m d)))), s16, s21]) rfl rfl f46 rfl Tryz.sizeOf38 (nbl rfl) (one_cons rfl (one_cons f47.one (one_cons f41.one one_nil))) (fun w42 sw42 fw42 cw42 => ?_)
 have zw42 := cw42.size
 have gw42 : Blk w42 b4 [.bool (nz n (dg (m / (Nat.gcd m d)))), s16, s21] 38 := fw42
 refine av rfl rfl (wl_nil (q_n (k37 _ _ ?_)))
 refine sx_retc ?_
 refine sx_ret2 Tryz.results50 ⟨_, rfl, gw42.loadA (vs := [.bool (nz n (dg (m / (Nat.gcd m d)))), s16, s21]) (look_lit rfl) Tryz.isAgg38 Tryz.sizeOf38⟩ rfl ?_
 have hrl := rR_len (x := sgI n m) (d := d)
 rw [rR_ok hd0 (by omega) (by omega)] at hrl ⊢
 have q48 := Chg.step (l := 0) (h := 0) (Chg.zero (l := 0) (h := 0) (((((cb2.t cb4).t c12).t c16).t c21).t c40)) cw42 (by omega)
 have f49 := f47.chg cw42 (by omega)
 have f50 := f41.chg cw42 (by omega)
 exact ⟨_, _, _, _, _, _, rfl, f49, f50, by omega, hrl, q48⟩

theorem c_iRatMake {w : World} {n1 : Bool} {v1 : Value} {lv1 uv1 : Nat} {z1 : List Int} {n2 : Bool} {v2 : Value} {lv2 uv2 : Nat} {z2 : List Int} (hv1 : Sl w lv1 uv1 v1 (z1)) (hv2 : Sl w lv2 uv2 v2 (z2)) (h63 : z1.length ≤ 4611686018427387904 ∧ z2.length ≤ 4611686018427387904) :
  Ret Tryz.prog 95 [.agg #[.bool n1, v1], .agg #[.bool n2, v2]] w fun v w' => ∃ s t ls us lt ut, v = .tuple #[.agg #[.bool ((rMake n1 z1 n2 z2).1), s, t], .bool ((rMake n1 z1 n2 z2).2.2.2)] ∧ OwnI w' (ls) (us) s intT ((rMake n1 z1 n2 z2).2.1) ∧ OwnI w' (lt) (ut) t intT ((rMake n1 z1 n2 z2).2.2.1) ∧ (w.heap.size ≤ ls ∧ us ≤ w'.heap.size ∧ w.heap.size ≤ lt ∧ ut ≤ w'.heap.size ∧ (us ≤ lt ∨ ut ≤ ls)) ∧ ((rMake n1 z1 n2 z2).2.1.length ≤ 18 ∧ (rMake n1 z1 n2 z2).2.2.1.length ≤ 18) ∧ Chg 0 0 w w' := by
 have hv10 := hv1.fit
 have hv20 := hv2.fit
 refine sx_enter Tryz.func95 rfl Tryz.ntmps95 (nbl rfl) ?_
 refine sx_seq fun K1 k1 => sx_region ?_
 refine sx_box [.bool n1, v1] rfl rfl rfl (fun b2 w3 eb2 sb2 fb2 cb2 => ?_)
 have zw3 := cb2.size
 refine sx_box [.bool n2, v2] rfl rfl rfl (fun b4 w5 eb4 sb4 fb4 cb4 => ?_)
 have zw5 := cb4.size
 refine sx_alloc [.bool false, (.slice none 0 0), (.slice none 0 0)] rfl Tryz.zeroValue38 rfl (fun b6 w7 eb6 sb6 fb6 cb6 => ?_)
 have zw7 := cb6.size
 refine av rfl rfl (wl_nil (q_n (k1 _ _ ?_)))
 refine sx_seq fun K8 k8 => ?_
 refine sx_seq fun K9 k9 => sx_region ?_
 have f10 := fb2.ext cb4
 have f11 := f10.ext cb6
 refine sp rfl (px_load rfl (f11.loadA (vs := [.bool n1, v1]) (look_lit rfl) Tryz.isAgg30 Tryz.sizeOf30)) ?_
 have f12 := fb4.ext cb6
 refine sp rfl (px_load rfl (f12.loadA (vs := [.bool n2, v2]) (look_lit rfl) Tryz.isAgg30 Tryz.sizeOf30)) ?_
 have f13 := hv10.ext cb2
 have f14 := f13.ext cb4
 have f15 := f14.ext cb6
 have f16 := hv20.ext cb2
 have f17 := f16.ext cb4
 have f18 := f17.ext cb6
 refine sx_call rfl rfl Tryz.call103 (c_intsOk f15 f18 (by omega)) (fun v19 w19 p19 => ?_)
 obtain ⟨rfl, c19⟩ := p19
 have zw19 := c19.size
 refine sp rfl (px_notP rfl) ?_
 refine mv rfl rfl ?_
 refine sx_tmpP (t := 10) rfl (fun h37 => ?_) (fun h37 => ?_)
 ·
  refine sx_guardF rfl rfl rfl rfl rfl rfl ?_
  refine sx_guardF rfl rfl rfl rfl rfl rfl ?_
  refine sx_guardF rfl rfl rfl rfl rfl rfl ?_
  refine sx_guardF rfl rfl rfl rfl rfl rfl ?_
  refine sp rfl (px_pick rfl rfl) ?_
  refine wl_nil (q_n (k9 _ _ ?_))
  refine sx_sub (Sub.c 2 rfl (.c 3 rfl (.c 4 rfl (.c 5 rfl (.c 15 rfl .nil))))) ?_
  refine sx_condT rfl ?_
  refine sx_seq fun K20 k20 => sx_region ?_
  refine sp rfl (px_build rfl (xbld38x  _)) ?_
  have f22 := fb6.ext c19
  refine sx_store (vs := [.bool false, (.slice none 0 0), (.slice none 0 0)]) rfl rfl f22 rfl Tryz.sizeOf38 (nbl rfl) (o3 rfl rfl rfl) (fun w21 sw21 fw21 cw21 => ?_)
  have zw21 := cw21.size
  have gw21 : Blk w21 b6 [.bool false, (.slice none 0 0), (.slice none 0 0)] 38 := fw21
  refine av rfl rfl (wl_nil (q_n (k20 _ _ ?_)))
  refine sx_retc ?_
  refine q_r (sx_ret2 Tryz.results95 ⟨_, rfl, gw21.loadA (vs := [.bool false, (.slice none 0 0), (.slice none 0 0)]) (look_lit rfl) Tryz.isAgg38 Tryz.sizeOf38⟩ rfl ?_)
  first | rw [rMake_no (by assumption)] | rw [rMake_ok hI.1 hI.2, rR_zero (len_zero.1 (by omega))]
  have q23 := Chg.step (l := 0) (h := 0) (Chg.zero (l := 0) (h := 0) (((cb2.t cb4).t cb6).t c19)) cw21 (by omega)
  exact ⟨_, _, w.heap.size, w.heap.size, w.heap.size, w.heap.size, rfl, Own.nil _ _ _ _ _, Own.nil _ _ _ _ _, by omega, ⟨by simp [noR], by simp [noR]⟩, q23⟩
 have hI := Decidable.not_not.1 h37
 obtain ⟨x1, rfl, rfl, hx1⟩ := hI.1.int
 obtain ⟨x2, rfl, rfl, hx2⟩ := hI.2.int
 refine sx_guardT rfl rfl rfl ?_
 refine sp rfl (px_field rfl xfld30x1) ?_
 refine sx_guardT rfl rfl rfl ?_
 have f24 := f12.ext c19
 refine sp rfl (px_load rfl (f24.load1 rfl Tryz.isAgg28)) ?_
 refine sx_guardT rfl rfl rfl ?_
 have f25 := f18.ext c19
 refine sp rfl (px_len rfl Tryz.underlying28 f25) ?_
 refine sx_guardT rfl rfl rfl ?_
 refine sp rfl (px_eq rfl rfl) ?_
 refine sp rfl (px_pick rfl rfl) ?_
 refine wl_nil (q_n (k9 _ _ ?_))
 refine sx_sub (Sub.c 2 rfl (.c 3 rfl (.c 4 rfl (.c 5 rfl (.c 15 rfl .nil))))) ?_
 refine sx_condP rfl (fun h37x1 => ?_) (fun h37x1 => ?_)
 ·
  refine sx_seq fun K26 k26 => sx_region ?_
  refine sp rfl (px_build rfl (xbld38x  _)) ?_
  have f28 := fb6.ext c19
  refine sx_store (vs := [.bool false, (.slice none 0 0), (.slice none 0 0)]) rfl rfl f28 rfl Tryz.sizeOf38 (nbl rfl) (o3 rfl rfl rfl) (fun w27 sw27 fw27 cw27 => ?_)
  have zw27 := cw27.size
  have gw27 : Blk w27 b6 [.bool false, (.slice none 0 0), (.slice none 0 0)] 38 := fw27
  refine av rfl rfl (wl_nil (q_n (k26 _ _ ?_)))
  refine sx_retc ?_
  refine q_r (sx_ret2 Tryz.results95 ⟨_, rfl, gw27.loadA (vs := [.bool false, (.slice none 0 0), (.slice none 0 0)]) (look_lit rfl) Tryz.isAgg38 Tryz.sizeOf38⟩ rfl ?_)
  first | rw [rMake_no (by assumption)] | rw [rMake_ok hI.1 hI.2, rR_zero (len_zero.1 (by omega))]
  have q29 := Chg.step (l := 0) (h := 0) (Chg.zero (l := 0) (h := 0) (((cb2.t cb4).t cb6).t c19)) cw27 (by omega)
  exact ⟨_, _, w.heap.size, w.heap.size, w.heap.size, w.heap.size, rfl, Own.nil _ _ _ _ _, Own.nil _ _ _ _ _, by omega, ⟨by simp [noR], by simp [noR]⟩, q29⟩
 refine sx_skip ?_
 refine q_n (k8 _ _ ?_)
 refine sx_seq fun K30 k30 => ?_
 have f31 := f11.ext c19
 refine dx_region (fun w' => Chg b6 (b6 + 1) w19 w') (by kernel_rfl) (Chg.zero (Chg.drew _)) ?_
 have d33 := Chg.drew w19
 have s33 : Chg b6 (b6 + 1) w19 (World.drew w19) := Chg.zero (Chg.drew _)
 have y33 : (World.drew w19).heap.size = w19.heap.size := rfl
 generalize World.drew w19 = w33 at *
 have zw33 := d33.size
 refine dt 0 rfl rfl rfl rfl s33 (fun _ hS => px_field rfl xfld30x0) ?_
 refine dt 1 rfl rfl rfl rfl s33 (fun _ hS => px_load rfl ((f31.chg hS (by omega)).load1 rfl Tryz.isAgg4)) ?_
 refine dt 2 rfl rfl rfl rfl s33 (fun _ hS => px_field rfl xfld30x0) ?_
 refine dt 3 rfl rfl rfl rfl s33 (fun _ hS => px_load rfl ((f24.chg hS (by omega)).load1 rfl Tryz.isAgg4)) ?_
 refine dt 4 rfl rfl rfl rfl s33 (fun _ hS => px_neB Tryz.underlying4 rfl rfl) ?_
 refine dt 5 rfl rfl rfl rfl s33 (fun _ hS => px_field rfl xfld30x1) ?_
 refine dt 6 rfl rfl rfl rfl s33 (fun _ hS => px_load rfl ((f31.chg hS (by omega)).load1 rfl Tryz.isAgg28)) ?_
 refine dt 8 rfl rfl rfl rfl s33 (fun _ hS => px_field rfl xfld30x1) ?_
 refine dt 9 rfl rfl rfl rfl s33 (fun _ hS => px_load rfl ((f24.chg hS (by omega)).load1 rfl Tryz.isAgg28)) ?_
 refine dx_eff 7 rfl (by kernel_rfl) ?_
 have f34 := (f15.ext c19).ext d33
 refine sx_call rfl rfl Tryz.call20 (c_signed f34 (by omega)) (fun v35 w35 p35 => ?_)
 obtain ⟨rfl, c35⟩ := p35
 have zw35 := c35.size
 have s36 : Chg b6 (b6 + 1) w19 w35 := (Chg.zero (l := b6) (h := (b6 + 1)) (d33.t c35))
 refine wl_nil ?_
 refine dx_next s36 ?_
 refine dx_eff 10 rfl (by kernel_rfl) ?_
 have f37 := f34.ext c35
 have f39 := (f25.ext d33).ext c35
 refine sx_call rfl rfl Tryz.call50 (c_reduce f37 f39 (by omega) (by omega) (len_pos.1 (by omega))) (fun v40 w40 p40 => ?_)
 obtain ⟨s40, t40, ls40, us40, lt40, ut40, rfl, os_40, ot_40, hd40, hl40, c40⟩ := p40
 have zw40 := c40.size
 have s41 : Chg b6 (b6 + 1) w19 w40 := (Chg.zero (l := b6) (h := (b6 + 1)) ((d33.t c35).t c40))
 refine wl_nil ?_
 refine dx_next s41 ?_
 refine dt 11 rfl rfl rfl rfl s41 (fun _ hS => px_ex2 rfl rfl) ?_
 refine dt 12 rfl rfl rfl rfl s41 (fun _ hS => px_ex2 rfl rfl) ?_
 refine dx_eff 13 rfl (by kernel_rfl) ?_
 have f46 := (((fb6.ext c19).ext d33).ext c35).ext c40
 refine sx_store (vs := [.bool ((rR (sgI (nz ((ng x1) != (ng x2)) (dg x1.natAbs)) x1.natAbs) x2.natAbs).1), s40, t40]) rfl rfl f46 rfl Tryz.sizeOf38 (nbl rfl) (one_cons rfl (one_cons os_40.one (one_cons ot_40.one one_nil))) (fun w42 sw42 fw42 cw42 => ?_)
 have zw42 := cw42.size
 have gw42 : Blk w42 b6 [.bool ((rR (sgI (nz ((ng x1) != (ng x2)) (dg x1.natAbs)) x1.natAbs) x2.natAbs).1), s40, t40] 38 := fw42
 have q48 := Chg.step (l := b6) (h := (b6 + 1)) (Chg.zero (l := b6) (h := (b6 + 1)) ((d33.t c35).t c40)) cw42 (by omega)
 have s47 : Chg b6 (b6 + 1) w19 w42 := q48
 refine wl_nil ?_
 refine dx_next s47 ?_
 refine dt 14 rfl rfl rfl rfl s47 (fun _ hS => px_assign rfl) ?_
 refine dx_done (by kernel_rfl) ?_
 refine q_n (k30 _ _ ?_)
 refine sx_sub (Sub.c 4 rfl (.c 5 rfl .nil)) ?_
 refine sx_retc ?_
 refine sx_ret2 Tryz.results95 ⟨_, rfl, gw42.loadA (vs := [.bool ((rR (sgI (nz ((ng x1) != (ng x2)) (dg x1.natAbs)) x1.natAbs) x2.natAbs).1), s40, t40]) (look_lit rfl) Tryz.isAgg38 Tryz.sizeOf38⟩ rfl ?_
 have hrl := rMake_len (n1 := ng x1) (z1 := dg x1.natAbs) (n2 := ng x2) (z2 := dg x2.natAbs)
 have hre : rMake (ng x1) (dg x1.natAbs) (ng x2) (dg x2.natAbs) = rR (sgI (nz (ng x1 != ng x2) (dg x1.natAbs)) x1.natAbs) x2.natAbs := by rw [rMake_ok hI.1 hI.2, sgI_nz]
 rw [hre] at hrl ⊢
 have q49 := Chg.step (l := 0) (h := 0) (Chg.zero (l := 0) (h := 0) ((((((cb2.t cb4).t cb6).t c19).t d33).t c35).t c40)) cw42 (by omega)
 have f50 := os_40.chg cw42 (by omega)
 have f51 := ot_40.chg cw42 (by omega)
 exact ⟨_, _, _, _, _, _, rfl, f50, f51, by omega, hrl, q49⟩

theorem c_iRatMakeH {w : World} {va : Value} {lva uva : Nat} {x : Int} {vb : Value} {lvb uvb : Nat} {y : Int} (hva : Sl w lva uva va (dg x.natAbs)) (hvb : Sl w lvb uvb vb (dg y.natAbs)) (hx : x = 1 ∧ y = 2) :
  Ret Tryz.prog 95 [.agg #[.bool (ng x), va], .agg #[.bool (ng y), vb]] w fun v w' => ∃ s t ls us lt ut, v = .tuple #[.agg #[.bool (ng (1 : Int)), s, t], .bool (true)] ∧ OwnI w' (ls) (us) s intT (dg (1 : Int).natAbs) ∧ OwnI w' (lt) (ut) t intT (dg 2) ∧ (w.heap.size ≤ ls ∧ us ≤ w'.heap.size ∧ w.heap.size ≤ lt ∧ ut ≤ w'.heap.size ∧ (us ≤ lt ∨ ut ≤ ls)) ∧ Chg 0 0 w w' := by
 obtain ⟨rfl, rfl⟩ := hx; have hl : ∀ n, n < 3 → (dg n).length ≤ 1 := fun n h => dg_len_le (by simp only [Bs]; omega)
 have h := c_iRatMake (n1 := ng 1) (n2 := ng 2) hva hvb ⟨Nat.le_trans (hl _ (by decide)) (by decide), Nat.le_trans (hl _ (by decide)) (by decide)⟩; rw [rMake_half] at h
 exact Calls.mono h fun ev w' ⟨v, he, s, t, ls, us, lt, ut, e1, o1, o2, hd, _, hc⟩ => ⟨v, he, s, t, ls, us, lt, ut, e1, o1, o2, hd, hc⟩

theorem c_iRatInt {w : World} {n1 : Bool} {v1 : Value} {lv1 uv1 : Nat} {z1 : List Int} (hv1 : Sl w lv1 uv1 v1 (z1)) (h63 : z1.length ≤ 4611686018427387904) :
  Ret Tryz.prog 74 [.agg #[.bool n1, v1]] w fun v w' => ∃ s t ls us lt ut, v = .tuple #[.agg #[.bool ((rInt n1 z1).1), s, t], .bool ((rInt n1 z1).2.2.2)] ∧ OwnI w' (ls) (us) s intT ((rInt n1 z1).2.1) ∧ OwnI w' (lt) (ut) t intT ((rInt n1 z1).2.2.1) ∧ (w.heap.size ≤ ls ∧ us ≤ w'.heap.size ∧ w.heap.size ≤ lt ∧ ut ≤ w'.heap.size ∧ (us ≤ lt ∨ ut ≤ ls)) ∧ ((rInt n1 z1).2.1.length ≤ 18 ∧ (rInt n1 z1).2.2.1.length ≤ 18) ∧ Chg 0 0 w w' := by
 have hv10 := hv1.fit
 refine sx_enter Tryz.func74 rfl Tryz.ntmps74 (nbl rfl) ?_
 refine sx_seq fun K1 k1 => sx_region ?_
 refine sx_box [.bool n1, v1] rfl rfl rfl (fun b2 w3 eb2 sb2 fb2 cb2 => ?_)
 have zw3 := cb2.size
 refine sx_alloc [.bool false, (.slice none 0 0), (.slice none 0 0)] rfl Tryz.zeroValue38 rfl (fun b4 w5 eb4 sb4 fb4 cb4 => ?_)
 have zw5 := cb4.size
 refine av rfl rfl (wl_nil (q_n (k1 _ _ ?_)))
 refine sx_seq fun K6 k6 => ?_
 have f7 := fb2.ext cb4
 have f8 := hv10.ext cb2
 have f9 := f8.ext cb4
 refine dx_region (fun w' => Chg b4 (b4 + 1) w5 w') (by kernel_rfl) (Chg.zero (Chg.drew _)) ?_
 have d10 := Chg.drew w5
 have s10 : Chg b4 (b4 + 1) w5 (World.drew w5) := Chg.zero (Chg.drew _)
 have y10 : (World.drew w5).heap.size = w5.heap.size := rfl
 generalize World.drew w5 = w10 at *
 have zw10 := d10.size
 refine dt 0 rfl rfl rfl rfl s10 (fun _ hS => px_load rfl ((f7.chg hS (by omega)).loadA (vs := [.bool n1, v1]) (look_lit rfl) Tryz.isAgg30 Tryz.sizeOf30)) ?_
 refine dx_eff 1 rfl (by kernel_rfl) ?_
 refine sx_call rfl rfl Tryz.call28 (c_iIntOf (by omega)) (fun v11 w11 p11 => ?_)
 obtain ⟨s11, rfl, os_11, c11⟩ := p11
 have zw11 := c11.size
 have s12 : Chg b4 (b4 + 1) w5 w11 := (Chg.zero (l := b4) (h := (b4 + 1)) (d10.t c11))
 refine wl_nil ?_
 refine dx_next s12 ?_
 refine dx_eff 2 rfl (by kernel_rfl) ?_
 have f14 := (f9.ext d10).ext c11
 refine sx_call rfl rfl Tryz.call95 (c_iRatMake f14 os_11.sv (by have h9 := len_i64 (n := 1) (by omega); omega)) (fun v15 w15 p15 => ?_)
 obtain ⟨s15, t15, ls15, us15, lt15, ut15, rfl, os_15, ot_15, hd15, hl15, c15⟩ := p15
 have zw15 := c15.size
 have s16 : Chg b4 (b4 + 1) w5 w15 := (Chg.zero (l := b4) (h := (b4 + 1)) ((d10.t c11).t c15))
 refine wl_nil ?_
 refine dx_next s16 ?_
 refine dt 3 rfl rfl rfl rfl s16 (fun _ hS => px_ex2 rfl rfl) ?_
 refine dt 4 rfl rfl rfl rfl s16 (fun _ hS => px_ex2 rfl rfl) ?_
 refine dx_eff 5 rfl (by kernel_rfl) ?_
 have f20 := ((fb4.ext d10).ext c11).ext c15
 refine sx_store (vs := [.bool ((rMake n1 z1 (ng (1 : Int)) (dg ((1 : Int)).natAbs)).1), s15, t15]) rfl rfl f20 rfl Tryz.sizeOf38 (nbl rfl) (one_cons rfl (one_cons os_15.one (one_cons ot_15.one one_nil))) (fun w17 sw17 fw17 cw17 => ?_)
 have zw17 := cw17.size
 have gw17 : Blk w17 b4 [.bool ((rMake n1 z1 (ng (1 : Int)) (dg ((1 : Int)).natAbs)).1), s15, t15] 38 := fw17
 have q22 := Chg.step (l := b4) (h := (b4 + 1)) (Chg.zero (l := b4) (h := (b4 + 1)) ((d10.t c11).t c15)) cw17 (by omega)
 have s21 : Chg b4 (b4 + 1) w5 w17 := q22
 refine wl_nil ?_
 refine dx_next s21 ?_
 refine dt 6 rfl rfl rfl rfl s21 (fun _ hS => px_assign rfl) ?_
 refine dx_done (by kernel_rfl) ?_
 refine q_n (k6 _ _ ?_)
 refine sx_retc ?_
 refine sx_ret2 Tryz.results74 ⟨_, rfl, gw17.loadA (vs := [.bool ((rMake n1 z1 (ng (1 : Int)) (dg ((1 : Int)).natAbs)).1), s15, t15]) (look_lit rfl) Tryz.isAgg38 Tryz.sizeOf38⟩ rfl ?_
 have hrl := rInt_len (n := n1) (z := z1)
 unfold rInt at hrl ⊢
 have q23 := Chg.step (l := 0) (h := 0) (Chg.zero (l := 0) (h := 0) ((((cb2.t cb4).t d10).t c11).t c15)) cw17 (by omega)
 have f24 := os_15.chg cw17 (by omega)
 have f25 := ot_15.chg cw17 (by omega)
 exact ⟨_, _, _, _, _, _, rfl, f24, f25, by omega, hrl, q23⟩

theorem c_iRatIntK {w : World} {va : Value} {lva uva : Nat} {x : Int} (hva : Sl w lva uva va (dg x.natAbs)) (hx : (dg x.natAbs).length ≤ 18) :
  Ret Tryz.prog 74 [.agg #[.bool (ng x), va]] w fun v w' => ∃ s t ls us lt ut, v = .tuple #[.agg #[.bool (ng x), s, t], .bool (true)] ∧ OwnI w' (ls) (us) s intT (dg (x).natAbs) ∧ OwnI w' (lt) (ut) t intT (dg 1) ∧ (w.heap.size ≤ ls ∧ us ≤ w'.heap.size ∧ w.heap.size ≤ lt ∧ ut ≤ w'.heap.size ∧ (us ≤ lt ∨ ut ≤ ls)) ∧ (ROk (ng x) (dg (x).natAbs) (dg 1)) ∧ Chg 0 0 w w' := by
 have h := c_iRatInt (n1 := ng x) hva (by omega); rw [rInt_ok hx, ← dg_1] at h
 exact Calls.mono h fun ev w' ⟨v, he, s, t, ls, us, lt, ut, e1, o1, o2, hd, _, hc⟩ => ⟨v, he, s, t, ls, us, lt, ut, e1, o1, o2, hd, ROk_whole hx, hc⟩

theorem c_natTen {w : World} {k : Int} (hk : 0 ≤ k ∧ k ≤ 449) :
  Ret Tryz.prog 48 [.int .i64 k] w fun v w' => ∃ s, v = s ∧ OwnI w' w.heap.size w'.heap.size s intT (dg (10 ^ (k).toNat)) ∧ Chg 0 0 w w' := by
 refine sx_enter Tryz.func48 rfl Tryz.ntmps48 (nbl rfl) ?_
 refine sx_seq fun K1 k1 => sx_region ?_
 refine av rfl rfl (wl_nil (q_n (k1 _ _ ?_)))
 refine sx_seq fun K2 k2 => sx_region ?_
 refine mv rfl rfl (sp rfl (px_quo rfl rfl (by omega) (by omega) (by omega)) ?_)
 refine mv rfl rfl (sp rfl (px_quo rfl rfl (by omega) (by omega) (by omega)) ?_)
 refine sp rfl (px_add rfl rfl (by omega)) ?_
 refine sx_makeC (l := (k / 9).toNat) (c := (k / 9).toNat + 1) rfl xelt28 (look_int rfl (by omega)) (look_int rfl (by omega)) (by omega) (by omega) (by unfold maxLen; omega) (fun s3 ws3 fs3 cs3 ls3 => ?_)
 have ns3 := fs3.madeC (by omega)
 have zws3 := cs3.size
 refine av rfl rfl (wl_nil (q_n (k2 _ _ ?_)))
 refine sx_seq fun K4 k4 => sx_region ?_
 refine av rfl rfl (wl_nil (q_n (k4 _ _ ?_)))
 refine sx_seq fun K5 k5 => ?_
 refine sx_seq fun K6 k6 => sx_region ?_
 refine mv rfl rfl (sp rfl (px_rem rfl rfl (by omega) (by omega)) ?_)
 refine mv rfl rfl (wl_nil (q_n (k6 _ _ ?_)))
 refine sx_block ?_
 refine sx_loop (fun mm aa w' => ∃ (j : Nat) (c : Nat), Agr 22 [(3, s3), (4, .int .i64 ((c : Nat) : Int)), (12, .int .i64 (k % 9)), (13, .int .i64 ↑j)] aa ∧ Chg 0 0 ws3 w' ∧ Own w' w.heap.size ws3.heap.size s3 3 ((List.replicate ((k / 9).toNat) 0).length) 1 ((List.replicate ((k / 9).toNat) 0).map (Value.int .i64)) ∧ (mm = (k % 9).toNat - j) ∧ ((j : Int) ≤ k % 9) ∧ (c = 10 ^ j)) (_) (fun a ha => ⟨0, 1, ha.sub (Sub.c 3 rfl (.c 4 (look_int (t := 4) rfl (by first | omega | simp)) (.c 12 rfl (.c 13 (look_int (t := 13) rfl (by first | omega | simp)) .nil)))), Chg.refl _ _ _, (ns3.mono (by omega) (by omega)), rfl, by omega, rfl⟩) ?_
 rintro mm aa wl7 ⟨j, c, hAwl7, cwl7, hs_s3, hm, hj, hc⟩
 refine (show cw Tryz.prog 22 _ _ _ wl7 from ?_) aa hAwl7
 clear hAwl7
 have zwl7 := cwl7.size
 have hb9 := ten_le (j := j) (by omega)
 refine sx_seq fun K8 k8 => sx_region ?_
 refine sp rfl (px_lt rfl rfl) ?_
 refine wl_nil (q_n (k8 _ _ ?_))
 refine sx_seq fun K9 k9 => ?_
 refine sx_condP rfl (fun h110 => ?_) (fun h110 => ?_)
 ·
  refine sx_skip ?_
  refine q_n (k9 _ _ ?_)
  refine sx_seq fun K10 k10 => ?_
  refine sx_block ?_
  refine sx_region ?_
  refine mv rfl rfl (sp rfl (px_mul rfl rfl (by omega)) ?_)
  refine av rfl rfl (wl_nil ?_)
  refine q_bn (q_n (k10 _ _ ?_))
  refine sx_region ?_
  refine sp rfl (px_add rfl rfl (by omega)) ?_
  refine mv rfl rfl (wl_nil ?_)
  exact fun a ha => ⟨_, by omega, (j + 1), (c * 10), ha.sub (Sub.c 3 rfl (.c 4 (look_int (t := 4) rfl (by first | omega | simp)) (.c 12 rfl (.c 13 (look_int (t := 13) rfl (by first | omega | simp)) .nil)))), cwl7, (hs_s3.mono (by omega) (by omega)), rfl, by omega, by rw [hc, Nat.pow_succ]⟩
 refine sx_exit ?_
 refine q_e (q_e (q_bx (q_n (k5 _ _ ?_))))
 refine sx_seq fun K11 k11 => sx_region ?_
 refine mv rfl rfl (mv rfl rfl ?_)
 refine sx_lit1 rfl xelt28 rfl rfl (fun s12 ws12 ss12 fs12 cs12 => ?_)
 have ns12 := Own.norm (f := (Value.int .i64)) (zs := [((c : Nat) : Int)]) fs12
 have zws12 := cs12.size
 have f14 := hs_s3.ext cs12
 refine sx_append rfl xelt28 rfl rfl f14 ns12.sv one_int (by omega) (by simp only [List.length_replicate, List.length_cons, List.length_nil]; omega) (by unfold maxLen; simp only [List.length_replicate, List.length_cons, List.length_nil]; omega) (fun a13 w13 fw13 cw13 => ?_)
 have nw13 := Own.app (f := (Value.int .i64)) (a := List.replicate ((k / 9).toNat) 0) (b := [((c : Nat) : Int)]) fw13
 have zw13 := cw13.size
 refine av rfl rfl (wl_nil (q_n (k11 _ _ ?_)))
 refine sx_retc ?_
 refine sx_ret1 Tryz.results48 rfl ?_
 have hd := ten_dg hk.1 (j := j) (by omega) hc
 rw [← hd]
 have q15 := Chg.step (l := 0) (h := 0) (Chg.zero (l := 0) (h := 0) ((cs3.t cwl7).t cs12)) cw13 (by omega)
 exact ⟨_, rfl, (Own.mono nw13 (by omega) (by omega)), q15⟩

theorem c_iDecRat {w : World} {n1 : Bool} {v1 : Value} {lv1 uv1 : Nat} {z1 : List Int} {p1 : Int} (hv1 : Sl w lv1 uv1 v1 (z1)) (h63 : z1.length ≤ 4611686018427387904) :
  Ret Tryz.prog 76 [.agg #[.bool n1, v1, .int .i64 p1]] w fun v w' => ∃ s t ls us lt ut, v = .agg #[.bool ((dRat n1 z1 p1).1), s, t] ∧ OwnI w' (ls) (us) s intT ((dRat n1 z1 p1).2.1) ∧ OwnI w' (lt) (ut) t intT ((dRat n1 z1 p1).2.2.1) ∧ (w.heap.size ≤ ls ∧ us ≤ w'.heap.size ∧ w.heap.size ≤ lt ∧ ut ≤ w'.heap.size ∧ (us ≤ lt ∨ ut ≤ ls)) ∧ ((dRat n1 z1 p1).2.1.length ≤ 18 ∧ (dRat n1 z1 p1).2.2.1.length ≤ 18) ∧ Chg 0 0 w w' := by
 have hv10 := hv1.fit
 refine sx_enter Tryz.func76 rfl Tryz.ntmps76 (nbl rfl) ?_
 refine sx_seq fun K1 k1 => sx_region ?_
 refine sx_box [.bool n1, v1, .int .i64 p1] rfl rfl rfl (fun b2 w3 eb2 sb2 fb2 cb2 => ?_)
 have zw3 := cb2.size
 refine sx_alloc [.bool false, (.slice none 0 0), (.slice none 0 0)] rfl Tryz.zeroValue38 rfl (fun b4 w5 eb4 sb4 fb4 cb4 => ?_)
 have zw5 := cb4.size
 refine wl_nil (q_n (k1 _ _ ?_))
 refine sx_seq fun K6 k6 => ?_
 refine sx_seq fun K7 k7 => sx_region ?_
 have f8 := fb2.ext cb4
 refine sp rfl (px_load rfl (f8.loadA (vs := [.bool n1, v1, .int .i64 p1]) (look_lit rfl) Tryz.isAgg73 Tryz.sizeOf73)) ?_
 have f9 := hv10.ext cb2
 have f10 := f9.ext cb4
 refine sx_call rfl rfl Tryz.call96 (c_iDecOk f10 (by omega)) (fun v11 w11 p11 => ?_)
 obtain ⟨rfl, c11⟩ := p11
 have zw11 := c11.size
 refine sp rfl (px_notP rfl) ?_
 refine wl_nil (q_n (k7 _ _ ?_))
 refine sx_condP rfl (fun h30 => ?_) (fun h30 => ?_)
 ·
  refine sx_seq fun K12 k12 => sx_region ?_
  refine sp rfl (px_build rfl (xbld38x  _)) ?_
  have f14 := fb4.ext c11
  refine sx_store (vs := [.bool false, (.slice none 0 0), (.slice none 0 0)]) rfl rfl f14 rfl Tryz.sizeOf38 (nbl rfl) (o3 rfl rfl rfl) (fun w13 sw13 fw13 cw13 => ?_)
  have zw13 := cw13.size
  have gw13 : Blk w13 b4 [.bool false, (.slice none 0 0), (.slice none 0 0)] 38 := fw13
  refine wl_nil (q_n (k12 _ _ ?_))
  refine sx_retc ?_
  refine q_r (sx_ret1 Tryz.results76 ⟨_, rfl, gw13.loadA (vs := [.bool false, (.slice none 0 0), (.slice none 0 0)]) (look_lit rfl) Tryz.isAgg38 Tryz.sizeOf38⟩ ?_)
  rw [dRat_no h30]
  have q15 := Chg.step (l := 0) (h := 0) (Chg.zero (l := 0) (h := 0) ((cb2.t cb4).t c11)) cw13 (by omega)
  exact ⟨_, _, w.heap.size, w.heap.size, w.heap.size, w.heap.size, rfl, Own.nil _ _ _ _ _, Own.nil _ _ _ _ _, by omega, ⟨by simp [noR], by simp [noR]⟩, q15⟩
 have hD := Decidable.not_not.1 h30
 obtain ⟨x1, rfl, rfl, hx1⟩ := hD.int
 have ltn := ten_len' (k := p1) (by omega)
 refine sx_skip ?_
 refine q_n (k6 _ _ ?_)
 refine sx_seq fun K16 k16 => ?_
 refine sx_cut k16 (fun fr w' => ∃ (gb17x0 : Nat) (gs17x1 : Value) (gl17x1 : Nat) (gu17x1 : Nat) (gs17x2 : Value) (gl17x2 : Nat) (gu17x2 : Nat), fr = [(2, .pointer (some ⟨b4, 0, none⟩)), (3, .pointer (some ⟨gb17x0, 0, none⟩))] ∧ Chg 0 0 w11 w' ∧ (Blk w' gb17x0 [.bool ((rR (sgI (ng x1) x1.natAbs) (10 ^ (p1).toNat)).1), gs17x1, gs17x2] 38) ∧ (Own w' gl17x1 gu17x1 gs17x1 intT (((rR (sgI (ng x1) x1.natAbs) (10 ^ (p1).toNat)).2.1).length) 1 (((rR (sgI (ng x1) x1.natAbs) (10 ^ (p1).toNat)).2.1).map (Value.int .i64))) ∧ (Own w' gl17x2 gu17x2 gs17x2 intT (((rR (sgI (ng x1) x1.natAbs) (10 ^ (p1).toNat)).2.2.1).length) 1 (((rR (sgI (ng x1) x1.natAbs) (10 ^ (p1).toNat)).2.2.1).map (Value.int .i64))) ∧ (w11.heap.size ≤ gb17x0 ∧ gb17x0 + 1 ≤ w'.heap.size) ∧ (w11.heap.size ≤ gl17x1 ∧ gu17x1 ≤ w'.heap.size) ∧ (w11.heap.size ≤ gl17x2 ∧ gu17x2 ≤ w'.heap.size) ∧ (gu17x1 ≤ gb17x0 ∨ gb17x0 + 1 ≤ gl17x1) ∧ (gu17x2 ≤ gb17x0 ∨ gb17x0 + 1 ≤ gl17x2) ∧ (gu17x2 ≤ gl17x1 ∨ gu17x1 ≤ gl17x2)) (fun kc17 => ?_) ?_
 ·
  have f18 := f8.ext c11
  have f19 := fb4.ext c11
  have f20 := f10.ext c11
  refine dx_region (fun w' => Chg 0 0 w11 w') (by kernel_rfl) (Chg.zero (Chg.drew _)) ?_
  have d21 := Chg.drew w11
  have s21 : Chg 0 0 w11 (World.drew w11) := Chg.zero (Chg.drew _)
  have y21 : (World.drew w11).heap.size = w11.heap.size := rfl
  generalize World.drew w11 = w21 at *
  have zw21 := d21.size
  refine dt 0 rfl rfl rfl rfl s21 (fun _ hS => px_field rfl xfld73x0) ?_
  refine dt 1 rfl rfl rfl rfl s21 (fun _ hS => px_load rfl ((f18.chg hS (by omega)).loadA (vs := [.bool (ng x1), v1]) (look_lit rfl) Tryz.isAgg30 Tryz.sizeOf30)) ?_
  refine dt 2 rfl rfl rfl rfl s21 (fun _ hS => px_field rfl xfld73x1) ?_
  refine dt 3 rfl rfl rfl rfl s21 (fun _ hS => px_load rfl ((f18.chg hS (by omega)).load1 rfl Tryz.isAgg3)) ?_
  refine dx_eff2 4 9 rfl rfl (by kernel_rfl) ?_ ?_
  ·
   refine sx_call rfl rfl Tryz.call48 (c_natTen (by omega)) (fun v22 w22 p22 => ?_)
   obtain ⟨s22, rfl, os_22, c22⟩ := p22
   have zw22 := c22.size
   have s23 : Chg 0 0 w11 w22 := (d21.t c22)
   refine wl_nil ?_
   refine dx_next s23 ?_
   refine dx_eff2 5 9 rfl rfl (by kernel_rfl) ?_ ?_
   ·
    have f25 := (f20.ext d21).ext c22
    refine sx_call rfl rfl Tryz.call50 (c_reduce f25 os_22.sv (by omega) (by omega) (Nat.pow_pos (by decide))) (fun v26 w26 p26 => ?_)
    obtain ⟨s26, t26, ls26, us26, lt26, ut26, rfl, os_26, ot_26, hd26, hl26, c26⟩ := p26
    have zw26 := c26.size
    have s27 : Chg 0 0 w11 w26 := ((d21.t c22).t c26)
    refine wl_nil ?_
    refine dx_next s27 ?_
    refine dt 6 rfl rfl rfl rfl s27 (fun _ hS => px_move rfl) ?_
    refine dt 7 rfl rfl rfl rfl s27 (fun _ hS => px_ex2 rfl rfl) ?_
    refine dt 8 rfl rfl rfl rfl s27 (fun _ hS => px_ex2 rfl rfl) ?_
    refine dx_eff 9 rfl (by kernel_rfl) ?_
    refine sx_alloc [.bool false, (.slice none 0 0), (.slice none 0 0)] rfl Tryz.zeroValue38 rfl (fun b28 w29 eb28 sb28 fb28 cb28 => ?_)
    have zw29 := cb28.size
    have s30 : Chg 0 0 w11 w29 := (((d21.t c22).t c26).t cb28)
    refine wl_nil ?_
    refine dx_next s30 ?_
    refine dx_eff 10 rfl (by kernel_rfl) ?_
    have f32 := ot_26.ext cb28
    have f33 := os_26.ext cb28
    refine sx_store (vs := [.bool ((rR (sgI (ng x1) x1.natAbs) (10 ^ (p1).toNat)).1), s26, t26]) rfl rfl fb28 rfl Tryz.sizeOf38 (nbl rfl) (one_cons rfl (one_cons f33.one (one_cons f32.one one_nil))) (fun w31 sw31 fw31 cw31 => ?_)
    have zw31 := cw31.size
    have gw31 : Blk w31 b28 [.bool ((rR (sgI (ng x1) x1.natAbs) (10 ^ (p1).toNat)).1), s26, t26] 38 := fw31
    have q35 := Chg.step (l := 0) (h := 0) (Chg.zero (l := 0) (h := 0) (((d21.t c22).t c26).t cb28)) cw31 (by omega)
    have s34 : Chg 0 0 w11 w31 := q35
    refine wl_nil ?_
    refine dx_next s34 ?_
    refine dt 11 rfl rfl rfl rfl s34 (fun _ hS => px_assign rfl) ?_
    refine dx_done (by kernel_rfl) ?_
    have f36 := f33.chg cw31 (by omega)
    have f37 := f32.chg cw31 (by omega)
    have q38 := Chg.step (l := 0) (h := 0) (Chg.zero (l := 0) (h := 0) (((d21.t c22).t c26).t cb28)) cw31 (by omega)
    exact q_n (kw_sub (Sub.c 2 rfl (.c 3 rfl .nil)) (kc17 _ _ ⟨b28, s26, ls26, us26, t26, lt26, ut26, rfl, q38, gw31, f36, f37, by omega, by omega, by omega, by omega, by omega, by omega⟩))
   refine sx_alloc [.bool false, (.slice none 0 0), (.slice none 0 0)] rfl Tryz.zeroValue38 rfl (fun b39 w40 eb39 sb39 fb39 cb39 => ?_)
   have zw40 := cb39.size
   have s41 : Chg 0 0 w11 w40 := ((d21.t c22).t cb39)
   refine wl_nil ?_
   refine dx_next s41 ?_
   refine dx_eff 5 rfl (by kernel_rfl) ?_
   have f44 := ((f20.ext d21).ext c22).ext cb39
   have f45 := os_22.ext cb39
   refine sx_call rfl rfl Tryz.call50 (c_reduce f44 f45.sv (by omega) (by omega) (Nat.pow_pos (by decide))) (fun v46 w46 p46 => ?_)
   obtain ⟨s46, t46, ls46, us46, lt46, ut46, rfl, os_46, ot_46, hd46, hl46, c46⟩ := p46
   have zw46 := c46.size
   have s47 : Chg 0 0 w11 w46 := (((d21.t c22).t cb39).t c46)
   refine wl_nil ?_
   refine dx_next s47 ?_
   refine dt 6 rfl rfl rfl rfl s47 (fun _ hS => px_move rfl) ?_
   refine dt 7 rfl rfl rfl rfl s47 (fun _ hS => px_ex2 rfl rfl) ?_
   refine dt 8 rfl rfl rfl rfl s47 (fun _ hS => px_ex2 rfl rfl) ?_
   refine dx_eff 10 rfl (by kernel_rfl) ?_
   have f49 := fb39.ext c46
   refine sx_store (vs := [.bool ((rR (sgI (ng x1) x1.natAbs) (10 ^ (p1).toNat)).1), s46, t46]) rfl rfl f49 rfl Tryz.sizeOf38 (nbl rfl) (one_cons rfl (one_cons os_46.one (one_cons ot_46.one one_nil))) (fun w48 sw48 fw48 cw48 => ?_)
   have zw48 := cw48.size
   have gw48 : Blk w48 b39 [.bool ((rR (sgI (ng x1) x1.natAbs) (10 ^ (p1).toNat)).1), s46, t46] 38 := fw48
   have q51 := Chg.step (l := 0) (h := 0) (Chg.zero (l := 0) (h := 0) (((d21.t c22).t cb39).t c46)) cw48 (by omega)
   have s50 : Chg 0 0 w11 w48 := q51
   refine wl_nil ?_
   refine dx_next s50 ?_
   refine dt 11 rfl rfl rfl rfl s50 (fun _ hS => px_assign rfl) ?_
   refine dx_done (by kernel_rfl) ?_
   have f52 := os_46.chg cw48 (by omega)
   have f53 := ot_46.chg cw48 (by omega)
   have q54 := Chg.step (l := 0) (h := 0) (Chg.zero (l := 0) (h := 0) (((d21.t c22).t cb39).t c46)) cw48 (by omega)
   exact q_n (kw_sub (Sub.c 2 rfl (.c 3 rfl .nil)) (kc17 _ _ ⟨b39, s46, ls46, us46, t46, lt46, ut46, rfl, q54, gw48, f52, f53, by omega, by omega, by omega, by omega, by omega, by omega⟩))
  refine sx_alloc [.bool false, (.slice none 0 0), (.slice none 0 0)] rfl Tryz.zeroValue38 rfl (fun b55 w56 eb55 sb55 fb55 cb55 => ?_)
  have zw56 := cb55.size
  have s57 : Chg 0 0 w11 w56 := (d21.t cb55)
  refine wl_nil ?_
  refine dx_next s57 ?_
  refine dx_eff 4 rfl (by kernel_rfl) ?_
  refine sx_call rfl rfl Tryz.call48 (c_natTen (by omega)) (fun v58 w58 p58 => ?_)
  obtain ⟨s58, rfl, os_58, c58⟩ := p58
  have zw58 := c58.size
  have s59 : Chg 0 0 w11 w58 := ((d21.t cb55).t c58)
  refine wl_nil ?_
  refine dx_next s59 ?_
  refine dx_eff 5 rfl (by kernel_rfl) ?_
  have f61 := (f20.ext d21).ext cb55
  have f62 := f61.ext c58
  refine sx_call rfl rfl Tryz.call50 (c_reduce f62 os_58.sv (by omega) (by omega) (Nat.pow_pos (by decide))) (fun v63 w63 p63 => ?_)
  obtain ⟨s63, t63, ls63, us63, lt63, ut63, rfl, os_63, ot_63, hd63, hl63, c63⟩ := p63
  have zw63 := c63.size
  have s64 : Chg 0 0 w11 w63 := (((d21.t cb55).t c58).t c63)
  refine wl_nil ?_
  refine dx_next s64 ?_
  refine dt 6 rfl rfl rfl rfl s64 (fun _ hS => px_move rfl) ?_
  refine dt 7 rfl rfl rfl rfl s64 (fun _ hS => px_ex2 rfl rfl) ?_
  refine dt 8 rfl rfl rfl rfl s64 (fun _ hS => px_ex2 rfl rfl) ?_
  refine dx_eff 10 rfl (by kernel_rfl) ?_
  have f67 := (fb55.ext c58).ext c63
  refine sx_store (vs := [.bool ((rR (sgI (ng x1) x1.natAbs) (10 ^ (p1).toNat)).1), s63, t63]) rfl rfl f67 rfl Tryz.sizeOf38 (nbl rfl) (one_cons rfl (one_cons os_63.one (one_cons ot_63.one one_nil))) (fun w65 sw65 fw65 cw65 => ?_)
  have zw65 := cw65.size
  have gw65 : Blk w65 b55 [.bool ((rR (sgI (ng x1) x1.natAbs) (10 ^ (p1).toNat)).1), s63, t63] 38 := fw65
  have q69 := Chg.step (l := 0) (h := 0) (Chg.zero (l := 0) (h := 0) (((d21.t cb55).t c58).t c63)) cw65 (by omega)
  have s68 : Chg 0 0 w11 w65 := q69
  refine wl_nil ?_
  refine dx_next s68 ?_
  refine dt 11 rfl rfl rfl rfl s68 (fun _ hS => px_assign rfl) ?_
  refine dx_done (by kernel_rfl) ?_
  have f70 := os_63.chg cw65 (by omega)
  have f71 := ot_63.chg cw65 (by omega)
  have q72 := Chg.step (l := 0) (h := 0) (Chg.zero (l := 0) (h := 0) (((d21.t cb55).t c58).t c63)) cw65 (by omega)
  exact q_n (kw_sub (Sub.c 2 rfl (.c 3 rfl .nil)) (kc17 _ _ ⟨b55, s63, ls63, us63, t63, lt63, ut63, rfl, q72, gw65, f70, f71, by omega, by omega, by omega, by omega, by omega, by omega⟩))
 rintro fr w'17 ⟨gb17x0, gs17x1, gl17x1, gu17x1, gs17x2, gl17x2, gu17x2, rfl, cw'17, xgb17x0, xgs17x1, xgs17x2, ygb17x0, ygl17x1, ygl17x2, dgl17x1xgb17x0, dgl17x2xgb17x0, dgl17x2xgl17x1⟩
 have zw'17 := cw'17.size
 refine sx_seq fun K73 k73 => sx_region ?_
 refine sp rfl (px_load rfl (xgb17x0.loadA (vs := [.bool ((rR (sgI (ng x1) x1.natAbs) (10 ^ (p1).toNat)).1), gs17x1, gs17x2]) (look_lit rfl) Tryz.isAgg38 Tryz.sizeOf38)) ?_
 have f76 := (fb4.ext c11).ext cw'17
 refine sx_store (vs := [.bool ((rR (sgI (ng x1) x1.natAbs) (10 ^ (p1).toNat)).1), gs17x1, gs17x2]) rfl rfl f76 rfl Tryz.sizeOf38 (nbl rfl) (one_cons rfl (one_cons xgs17x1.one (one_cons xgs17x2.one one_nil))) (fun w74 sw74 fw74 cw74 => ?_)
 have zw74 := cw74.size
 have gw74 : Blk w74 b4 [.bool ((rR (sgI (ng x1) x1.natAbs) (10 ^ (p1).toNat)).1), gs17x1, gs17x2] 38 := fw74
 refine wl_nil (q_n (k73 _ _ ?_))
 refine sx_retc ?_
 refine sx_ret1 Tryz.results76 ⟨_, rfl, gw74.loadA (vs := [.bool ((rR (sgI (ng x1) x1.natAbs) (10 ^ (p1).toNat)).1), gs17x1, gs17x2]) (look_lit rfl) Tryz.isAgg38 Tryz.sizeOf38⟩ ?_
 have hrl := dRat_len (n := ng x1) (z := dg x1.natAbs) (p := p1)
 rw [dRat_ok hD] at hrl ⊢
 have q77 := Chg.step (l := 0) (h := 0) (Chg.zero (l := 0) (h := 0) (((cb2.t cb4).t c11).t cw'17)) cw74 (by omega)
 have f78 := xgs17x1.chg cw74 (by omega)
 have f79 := xgs17x2.chg cw74 (by omega)
 exact ⟨_, _, _, _, _, _, rfl, f78, f79, by omega, hrl, q77⟩

theorem c_iRatOk {w : World} {n1 : Bool} {v1 : Value} {lv1 uv1 : Nat} {z1 : List Int} {d1 : Value} {ld1 ud1 : Nat} {y1 : List Int} (hv1 : Sl w lv1 uv1 v1 (z1)) (hd1 : Sl w ld1 ud1 d1 (y1)) (h63 : z1.length ≤ 4611686018427387904 ∧ y1.length ≤ 4611686018427387904) :
  Ret Tryz.prog 64 [.agg #[.bool n1, v1, d1]] w fun v w' => v = .bool (decide (ROk n1 z1 y1)) ∧ Chg 0 0 w w' := by
 have hv10 := hv1.fit
 have hd10 := hd1.fit
 refine sx_enter Tryz.func64 rfl Tryz.ntmps64 (nbl rfl) ?_
 refine sx_seq fun K1 k1 => sx_region ?_
 refine sx_box [.bool n1, v1, d1] rfl rfl rfl (fun b2 w3 eb2 sb2 fb2 cb2 => ?_)
 have zw3 := cb2.size
 refine av rfl rfl (wl_nil (q_n (k1 _ _ ?_)))
 refine sx_seq fun K4 k4 => ?_
 refine sx_seq fun K5 k5 => sx_region ?_
 refine sp rfl (px_field rfl xfld38x0) ?_
 refine sp rfl (px_load rfl (fb2.loadA (vs := [.bool n1, v1]) (look_lit rfl) Tryz.isAgg30 Tryz.sizeOf30)) ?_
 have f6 := hv10.ext cb2
 refine sx_call rfl rfl Tryz.call46 (c_iIntOk f6 (by omega)) (fun v7 w7 p7 => ?_)
 obtain ⟨rfl, c7⟩ := p7
 have zw7 := c7.size
 refine sp rfl (px_notP rfl) ?_
 refine mv rfl rfl ?_
 refine sx_tmpP (t := 8) rfl (fun h14 => ?_) (fun h14 => ?_)
 ·
  refine sx_guardF rfl rfl rfl rfl rfl rfl ?_
  refine sx_guardF rfl rfl rfl rfl rfl rfl ?_
  refine sx_guardF rfl rfl rfl rfl rfl rfl ?_
  refine sx_guardF rfl rfl rfl rfl rfl rfl ?_
  refine sp rfl (px_pick rfl rfl) ?_
  refine mv rfl rfl ?_
  refine sx_guardF rfl rfl rfl rfl rfl rfl ?_
  refine sx_guardF rfl rfl rfl rfl rfl rfl ?_
  refine sx_guardF rfl rfl rfl rfl rfl rfl ?_
  refine sx_guardF rfl rfl rfl rfl rfl rfl ?_
  refine sp rfl (px_pick rfl rfl) ?_
  refine mv rfl rfl ?_
  refine sx_guardF rfl rfl rfl rfl rfl rfl ?_
  refine sx_guardF rfl rfl rfl rfl rfl rfl ?_
  refine sx_guardF rfl rfl rfl rfl rfl rfl ?_
  refine sx_guardF rfl rfl rfl rfl rfl rfl ?_
  refine sp rfl (px_pick rfl rfl) ?_
  refine mv rfl rfl ?_
  refine sx_guardF rfl rfl rfl rfl rfl rfl ?_
  refine sx_guardF rfl rfl rfl rfl rfl rfl ?_
  refine sx_guardF rfl rfl rfl rfl rfl rfl ?_
  refine sx_guardF rfl rfl rfl rfl rfl rfl ?_
  refine sx_guardF rfl rfl rfl rfl rfl rfl ?_
  refine sp rfl (px_pick rfl rfl) ?_
  refine wl_nil (q_n (k5 _ _ ?_))
  refine sx_sub (Sub.c 1 rfl (.c 2 rfl (.c 32 rfl .nil))) ?_
  refine sx_condT rfl ?_
  refine sx_seq fun K8 k8 => sx_region ?_
  refine av rfl rfl (wl_nil (q_n (k8 _ _ ?_)))
  refine sx_retc ?_
  refine q_r (sx_ret1 Tryz.results64 rfl ?_)
  exact ⟨(bFalse (by grind [ROk])), (cb2.t c7)⟩
 refine sx_guardT rfl rfl rfl ?_
 refine sp rfl (px_field rfl xfld38x1) ?_
 refine sx_guardT rfl rfl rfl ?_
 have f9 := fb2.ext c7
 refine sp rfl (px_load rfl (f9.load1 rfl Tryz.isAgg28)) ?_
 refine sx_guardT rfl rfl rfl ?_
 have f10 := hd10.ext cb2
 have f11 := f10.ext c7
 refine sx_call rfl rfl Tryz.call72 (c_iNatOk f11 (by omega)) (fun v12 w12 p12 => ?_)
 obtain ⟨rfl, c12⟩ := p12
 have zw12 := c12.size
 refine sx_guardT rfl rfl rfl ?_
 refine sp rfl (px_notP rfl) ?_
 refine sp rfl (px_pick rfl rfl) ?_
 refine mv rfl rfl ?_
 refine sx_tmpP (t := 14) rfl (fun h14x1 => ?_) (fun h14x1 => ?_)
 ·
  refine sx_guardF rfl rfl rfl rfl rfl rfl ?_
  refine sx_guardF rfl rfl rfl rfl rfl rfl ?_
  refine sx_guardF rfl rfl rfl rfl rfl rfl ?_
  refine sx_guardF rfl rfl rfl rfl rfl rfl ?_
  refine sp rfl (px_pick rfl rfl) ?_
  refine mv rfl rfl ?_
  refine sx_guardF rfl rfl rfl rfl rfl rfl ?_
  refine sx_guardF rfl rfl rfl rfl rfl rfl ?_
  refine sx_guardF rfl rfl rfl rfl rfl rfl ?_
  refine sx_guardF rfl rfl rfl rfl rfl rfl ?_
  refine sp rfl (px_pick rfl rfl) ?_
  refine mv rfl rfl ?_
  refine sx_guardF rfl rfl rfl rfl rfl rfl ?_
  refine sx_guardF rfl rfl rfl rfl rfl rfl ?_
  refine sx_guardF rfl rfl rfl rfl rfl rfl ?_
  refine sx_guardF rfl rfl rfl rfl rfl rfl ?_
  refine sx_guardF rfl rfl rfl rfl rfl rfl ?_
  refine sp rfl (px_pick rfl rfl) ?_
  refine wl_nil (q_n (k5 _ _ ?_))
  refine sx_sub (Sub.c 1 rfl (.c 2 rfl (.c 32 rfl .nil))) ?_
  refine sx_condT rfl ?_
  refine sx_seq fun K13 k13 => sx_region ?_
  refine av rfl rfl (wl_nil (q_n (k13 _ _ ?_)))
  refine sx_retc ?_
  refine q_r (sx_ret1 Tryz.results64 rfl ?_)
  exact ⟨(bFalse (by grind [ROk])), ((cb2.t c7).t c12)⟩
 refine sx_guardT rfl rfl rfl ?_
 refine sp rfl (px_field rfl xfld38x1) ?_
 refine sx_guardT rfl rfl rfl ?_
 have f14 := f9.ext c12
 refine sp rfl (px_load rfl (f14.load1 rfl Tryz.isAgg28)) ?_
 refine sx_guardT rfl rfl rfl ?_
 have f15 := f11.ext c12
 refine sp rfl (px_len rfl Tryz.underlying28 f15) ?_
 refine sx_guardT rfl rfl rfl ?_
 refine sp rfl (px_eq rfl rfl) ?_
 refine sp rfl (px_pick rfl rfl) ?_
 refine mv rfl rfl ?_
 refine sx_tmpP (t := 20) rfl (fun h14x2 => ?_) (fun h14x2 => ?_)
 ·
  refine sx_guardF rfl rfl rfl rfl rfl rfl ?_
  refine sx_guardF rfl rfl rfl rfl rfl rfl ?_
  refine sx_guardF rfl rfl rfl rfl rfl rfl ?_
  refine sx_guardF rfl rfl rfl rfl rfl rfl ?_
  refine sp rfl (px_pick rfl rfl) ?_
  refine mv rfl rfl ?_
  refine sx_guardF rfl rfl rfl rfl rfl rfl ?_
  refine sx_guardF rfl rfl rfl rfl rfl rfl ?_
  refine sx_guardF rfl rfl rfl rfl rfl rfl ?_
  refine sx_guardF rfl rfl rfl rfl rfl rfl ?_
  refine sx_guardF rfl rfl rfl rfl rfl rfl ?_
  refine sp rfl (px_pick rfl rfl) ?_
  refine wl_nil (q_n (k5 _ _ ?_))
  refine sx_sub (Sub.c 1 rfl (.c 2 rfl (.c 32 rfl .nil))) ?_
  refine sx_condT rfl ?_
  refine sx_seq fun K16 k16 => sx_region ?_
  refine av rfl rfl (wl_nil (q_n (k16 _ _ ?_)))
  refine sx_retc ?_
  refine q_r (sx_ret1 Tryz.results64 rfl ?_)
  exact ⟨(bFalse (by grind [ROk])), ((cb2.t c7).t c12)⟩
 refine sx_guardT rfl rfl rfl ?_
 refine sp rfl (px_field rfl xfld38x1) ?_
 refine sx_guardT rfl rfl rfl ?_
 refine sp rfl (px_load rfl (f14.load1 rfl Tryz.isAgg28)) ?_
 refine sx_guardT rfl rfl rfl ?_
 refine sp rfl (px_len rfl Tryz.underlying28 f15) ?_
 refine sx_guardT rfl rfl rfl ?_
 refine sp rfl (px_gt rfl rfl) ?_
 refine sp rfl (px_pick rfl rfl) ?_
 refine mv rfl rfl ?_
 refine sx_tmpP (t := 26) rfl (fun h14x3 => ?_) (fun h14x3 => ?_)
 ·
  refine sx_guardF rfl rfl rfl rfl rfl rfl ?_
  refine sx_guardF rfl rfl rfl rfl rfl rfl ?_
  refine sx_guardF rfl rfl rfl rfl rfl rfl ?_
  refine sx_guardF rfl rfl rfl rfl rfl rfl ?_
  refine sx_guardF rfl rfl rfl rfl rfl rfl ?_
  refine sp rfl (px_pick rfl rfl) ?_
  refine wl_nil (q_n (k5 _ _ ?_))
  refine sx_sub (Sub.c 1 rfl (.c 2 rfl (.c 32 rfl .nil))) ?_
  refine sx_condT rfl ?_
  refine sx_seq fun K17 k17 => sx_region ?_
  refine av rfl rfl (wl_nil (q_n (k17 _ _ ?_)))
  refine sx_retc ?_
  refine q_r (sx_ret1 Tryz.results64 rfl ?_)
  exact ⟨(bFalse (by grind [ROk])), ((cb2.t c7).t c12)⟩
 refine sx_guardT rfl rfl rfl ?_
 refine sp rfl (px_field rfl xfld38x0) ?_
 refine sx_guardT rfl rfl rfl ?_
 refine sp rfl (px_field rfl xfld30x1) ?_
 refine sx_guardT rfl rfl rfl ?_
 refine sp rfl (px_load rfl (f14.load1 rfl Tryz.isAgg28)) ?_
 refine sx_guardT rfl rfl rfl ?_
 have f19 := (f6.ext c7).ext c12
 refine sp rfl (px_len rfl Tryz.underlying28 f19) ?_
 refine sx_guardT rfl rfl rfl ?_
 refine sp rfl (px_gt rfl rfl) ?_
 refine sp rfl (px_pick rfl rfl) ?_
 refine wl_nil (q_n (k5 _ _ ?_))
 refine sx_sub (Sub.c 1 rfl (.c 2 rfl (.c 32 rfl .nil))) ?_
 refine sx_condP rfl (fun h14x4 => ?_) (fun h14x4 => ?_)
 ·
  refine sx_seq fun K20 k20 => sx_region ?_
  refine av rfl rfl (wl_nil (q_n (k20 _ _ ?_)))
  refine sx_retc ?_
  refine q_r (sx_ret1 Tryz.results64 rfl ?_)
  exact ⟨(bFalse (by grind [ROk])), ((cb2.t c7).t c12)⟩
 have hR1 := Decidable.not_not.1 h14
 have hR2 := Decidable.not_not.1 h14x1
 obtain ⟨x1, rfl, rfl, hx1⟩ := hR1.int
 obtain ⟨e1, rfl, he1⟩ := hR2.dg
 have he0 : 0 < e1 := len_pos.1 (by omega)
 have hk : ROk (ng x1) (dg x1.natAbs) (dg e1) ↔ dg (Nat.gcd x1.natAbs e1) = [1] := by rw [ROk_iff, dg_is_one]; exact ⟨fun h => h.2.2.2, fun h => ⟨he0, by omega, by omega, h⟩⟩
 refine sx_skip ?_
 refine q_n (k4 _ _ ?_)
 refine sx_seq fun K21 k21 => sx_region ?_
 refine sp rfl (px_field rfl xfld38x0) ?_
 refine sp rfl (px_field rfl xfld30x1) ?_
 refine sp rfl (px_load rfl (f14.load1 rfl Tryz.isAgg28)) ?_
 refine sp rfl (px_field rfl xfld38x1) ?_
 refine sp rfl (px_load rfl (f14.load1 rfl Tryz.isAgg28)) ?_
 refine sx_call rfl rfl Tryz.call78 (c_natGcd f19 f15 (by omega) (by omega)) (fun v22 w22 p22 => ?_)
 obtain ⟨s22, rfl, os_22, c22⟩ := p22
 have zw22 := c22.size
 refine av rfl rfl (wl_nil (q_n (k21 _ _ ?_)))
 refine sx_seq fun K23 k23 => sx_region ?_
 refine mv rfl rfl (sp rfl (px_len rfl Tryz.underlying28 os_22.sv) ?_)
 refine sp rfl (px_eq rfl rfl) ?_
 refine mv rfl rfl ?_
 refine sx_tmpP (t := 42) rfl (fun h18 => ?_) (fun h18 => ?_)
 ·
  refine sx_guardT rfl rfl rfl ?_
  refine mv rfl rfl ?_
  refine sx_guardT rfl rfl rfl ?_
  refine sp rfl (px_index1 (j := 0) rfl rfl (by omega) Tryz.underlying28 Tryz.sizeOf3 os_22.sv (by omega)) ?_
  refine sx_guardT rfl rfl rfl ?_
  refine sp rfl (px_load rfl (os_22.sv.load1 (at_int (by omega)) Tryz.isAgg3)) ?_
  refine sx_guardT rfl rfl rfl ?_
  refine sp rfl (px_eq rfl rfl) ?_
  refine sp rfl (px_pick rfl rfl) ?_
  refine av rfl rfl (wl_nil (q_n (k23 _ _ ?_)))
  refine sx_sub (Sub.c 2 rfl .nil) ?_
  refine sx_retc ?_
  refine sx_ret1 Tryz.results64 rfl ?_
  rw [one_iff] at hk
  exact ⟨(by first | exact bFalse (fun h => by have := hk.1 h; omega) | exact bIff ⟨fun h => hk.2 ⟨by omega, h⟩, fun h => (hk.1 h).2⟩), (((cb2.t c7).t c12).t c22)⟩
 refine sx_guardF rfl rfl rfl rfl rfl rfl ?_
 refine sx_guardF rfl rfl rfl rfl rfl rfl ?_
 refine sx_guardF rfl rfl rfl rfl rfl rfl ?_
 refine sx_guardF rfl rfl rfl rfl rfl rfl ?_
 refine sp rfl (px_pick rfl rfl) ?_
 refine av rfl rfl (wl_nil (q_n (k23 _ _ ?_)))
 refine sx_sub (Sub.c 2 rfl .nil) ?_
 refine sx_retc ?_
 refine sx_ret1 Tryz.results64 rfl ?_
 rw [one_iff] at hk
 exact ⟨(by first | exact bFalse (fun h => by have := hk.1 h; omega) | exact bIff ⟨fun h => hk.2 ⟨by omega, h⟩, fun h => (hk.1 h).2⟩), (((cb2.t c7).t c12).t c22)⟩

theorem c_ratsOk {w : World} {n1 : Bool} {v1 : Value} {lv1 uv1 : Nat} {z1 : List Int} {d1 : Value} {ld1 ud1 : Nat} {y1 : List Int} {n2 : Bool} {v2 : Value} {lv2 uv2 : Nat} {z2 : List Int} {d2 : Value} {ld2 ud2 : Nat} {y2 : List Int} (hv1 : Sl w lv1 uv1 v1 (z1)) (hd1 : Sl w ld1 ud1 d1 (y1)) (hv2 : Sl w lv2 uv2 v2 (z2)) (hd2 : Sl w ld2 ud2 d2 (y2)) (h63 : z1.length ≤ 4611686018427387904 ∧ y1.length ≤ 4611686018427387904 ∧ z2.length ≤ 4611686018427387904 ∧ y2.length ≤ 4611686018427387904) :
  Ret Tryz.prog 32 [.agg #[.bool n1, v1, d1], .agg #[.bool n2, v2, d2]] w fun v w' => v = .bool (decide (ROk n1 z1 y1 ∧ ROk n2 z2 y2)) ∧ Chg 0 0 w w' := by
 have hv10 := hv1.fit
 have hd10 := hd1.fit
 have hv20 := hv2.fit
 have hd20 := hd2.fit
 refine sx_enter Tryz.func32 rfl Tryz.ntmps32 (nbl rfl) ?_
 refine sx_seq fun K1 k1 => sx_region ?_
 refine sx_box [.bool n1, v1, d1] rfl rfl rfl (fun b2 w3 eb2 sb2 fb2 cb2 => ?_)
 have zw3 := cb2.size
 refine sx_box [.bool n2, v2, d2] rfl rfl rfl (fun b4 w5 eb4 sb4 fb4 cb4 => ?_)
 have zw5 := cb4.size
 refine av rfl rfl (wl_nil (q_n (k1 _ _ ?_)))
 refine sx_seq fun K6 k6 => sx_region ?_
 have f7 := fb2.ext cb4
 refine sp rfl (px_load rfl (f7.loadA (vs := [.bool n1, v1, d1]) (look_lit rfl) Tryz.isAgg38 Tryz.sizeOf38)) ?_
 have f8 := hv10.ext cb2
 have f9 := f8.ext cb4
 have f10 := hd10.ext cb2
 have f11 := f10.ext cb4
 refine sx_call rfl rfl Tryz.call64 (c_iRatOk f9 f11 (by omega)) (fun v12 w12 p12 => ?_)
 obtain ⟨rfl, c12⟩ := p12
 have zw12 := c12.size
 refine mv rfl rfl ?_
 refine sx_tmpP (t := 7) rfl (fun h33 => ?_) (fun h33 => ?_)
 ·
  refine sx_guardT rfl rfl rfl ?_
  have f13 := fb4.ext c12
  refine sp rfl (px_load rfl (f13.loadA (vs := [.bool n2, v2, d2]) (look_lit rfl) Tryz.isAgg38 Tryz.sizeOf38)) ?_
  refine sx_guardT rfl rfl rfl ?_
  have f14 := hv20.ext cb2
  have f15 := f14.ext cb4
  have f16 := f15.ext c12
  have f17 := hd20.ext cb2
  have f18 := f17.ext cb4
  have f19 := f18.ext c12
  refine sx_call rfl rfl Tryz.call64 (c_iRatOk f16 f19 (by omega)) (fun v20 w20 p20 => ?_)
  obtain ⟨rfl, c20⟩ := p20
  have zw20 := c20.size
  refine sp rfl (px_pick rfl rfl) ?_
  refine av rfl rfl (wl_nil (q_n (k6 _ _ ?_)))
  refine sx_retc ?_
  refine sx_ret1 Tryz.results32 rfl ?_
  exact ⟨(by first | exact bTrue (by grind) | exact bFalse (by grind) | exact bIff (by grind)), (((cb2.t cb4).t c12).t c20)⟩
 refine sx_guardF rfl rfl rfl rfl rfl rfl ?_
 refine sx_guardF rfl rfl rfl rfl rfl rfl ?_
 refine sp rfl (px_pick rfl rfl) ?_
 refine av rfl rfl (wl_nil (q_n (k6 _ _ ?_)))
 refine sx_retc ?_
 refine sx_ret1 Tryz.results32 rfl ?_
 exact ⟨(by first | exact bTrue (by grind) | exact bFalse (by grind) | exact bIff (by grind)), ((cb2.t cb4).t c12)⟩

theorem c_iRatDiv {w : World} {n1 : Bool} {v1 : Value} {lv1 uv1 : Nat} {z1 : List Int} {d1 : Value} {ld1 ud1 : Nat} {y1 : List Int} {n2 : Bool} {v2 : Value} {lv2 uv2 : Nat} {z2 : List Int} {d2 : Value} {ld2 ud2 : Nat} {y2 : List Int} (hv1 : Sl w lv1 uv1 v1 (z1)) (hd1 : Sl w ld1 ud1 d1 (y1)) (hv2 : Sl w lv2 uv2 v2 (z2)) (hd2 : Sl w ld2 ud2 d2 (y2)) (h63 : z1.length ≤ 4611686018427387904 ∧ y1.length ≤ 4611686018427387904 ∧ z2.length ≤ 4611686018427387904 ∧ y2.length ≤ 4611686018427387904) :
  Ret Tryz.prog 77 [.agg #[.bool n1, v1, d1], .agg #[.bool n2, v2, d2]] w fun v w' => ∃ s t ls us lt ut, v = .tuple #[.agg #[.bool ((rDiv n1 z1 y1 n2 z2 y2).1), s, t], .bool ((rDiv n1 z1 y1 n2 z2 y2).2.2.2)] ∧ OwnI w' (ls) (us) s intT ((rDiv n1 z1 y1 n2 z2 y2).2.1) ∧ OwnI w' (lt) (ut) t intT ((rDiv n1 z1 y1 n2 z2 y2).2.2.1) ∧ (w.heap.size ≤ ls ∧ us ≤ w'.heap.size ∧ w.heap.size ≤ lt ∧ ut ≤ w'.heap.size ∧ (us ≤ lt ∨ ut ≤ ls)) ∧ ((rDiv n1 z1 y1 n2 z2 y2).2.1.length ≤ 18 ∧ (rDiv n1 z1 y1 n2 z2 y2).2.2.1.length ≤ 18) ∧ Chg 0 0 w w' := by
 have hv10 := hv1.fit
 have hd10 := hd1.fit
 have hv20 := hv2.fit
 have hd20 := hd2.fit
 refine sx_enter Tryz.func77 rfl Tryz.ntmps77 (nbl rfl) ?_
 refine sx_seq fun K1 k1 => sx_region ?_
 refine sx_box [.bool n1, v1, d1] rfl rfl rfl (fun b2 w3 eb2 sb2 fb2 cb2 => ?_)
 have zw3 := cb2.size
 refine sx_box [.bool n2, v2, d2] rfl rfl rfl (fun b4 w5 eb4 sb4 fb4 cb4 => ?_)
 have zw5 := cb4.size
 refine sx_alloc [.bool false, (.slice none 0 0), (.slice none 0 0)] rfl Tryz.zeroValue38 rfl (fun b6 w7 eb6 sb6 fb6 cb6 => ?_)
 have zw7 := cb6.size
 refine av rfl rfl (wl_nil (q_n (k1 _ _ ?_)))
 refine sx_seq fun K8 k8 => ?_
 refine sx_seq fun K9 k9 => sx_region ?_
 have f10 := fb2.ext cb4
 have f11 := f10.ext cb6
 refine sp rfl (px_load rfl (f11.loadA (vs := [.bool n1, v1, d1]) (look_lit rfl) Tryz.isAgg38 Tryz.sizeOf38)) ?_
 have f12 := fb4.ext cb6
 refine sp rfl (px_load rfl (f12.loadA (vs := [.bool n2, v2, d2]) (look_lit rfl) Tryz.isAgg38 Tryz.sizeOf38)) ?_
 have f13 := hv10.ext cb2
 have f14 := f13.ext cb4
 have f15 := f14.ext cb6
 have f16 := hd10.ext cb2
 have f17 := f16.ext cb4
 have f18 := f17.ext cb6
 have f19 := hv20.ext cb2
 have f20 := f19.ext cb4
 have f21 := f20.ext cb6
 have f22 := hd20.ext cb2
 have f23 := f22.ext cb4
 have f24 := f23.ext cb6
 refine sx_call rfl rfl Tryz.call32 (c_ratsOk f15 f18 f21 f24 (by omega)) (fun v25 w25 p25 => ?_)
 obtain ⟨rfl, c25⟩ := p25
 have zw25 := c25.size
 refine sp rfl (px_notP rfl) ?_
 refine mv rfl rfl ?_
 refine sx_tmpP (t := 10) rfl (fun h82 => ?_) (fun h82 => ?_)
 ·
  refine sx_guardF rfl rfl rfl rfl rfl rfl ?_
  refine sx_guardF rfl rfl rfl rfl rfl rfl ?_
  refine sx_guardF rfl rfl rfl rfl rfl rfl ?_
  refine sx_guardF rfl rfl rfl rfl rfl rfl ?_
  refine sx_guardF rfl rfl rfl rfl rfl rfl ?_
  refine sp rfl (px_pick rfl rfl) ?_
  refine wl_nil (q_n (k9 _ _ ?_))
  refine sx_sub (Sub.c 2 rfl (.c 3 rfl (.c 4 rfl (.c 5 rfl (.c 16 rfl .nil))))) ?_
  refine sx_condT rfl ?_
  refine sx_seq fun K26 k26 => sx_region ?_
  refine sp rfl (px_build rfl (xbld38x  _)) ?_
  have f28 := fb6.ext c25
  refine sx_store (vs := [.bool false, (.slice none 0 0), (.slice none 0 0)]) rfl rfl f28 rfl Tryz.sizeOf38 (nbl rfl) (o3 rfl rfl rfl) (fun w27 sw27 fw27 cw27 => ?_)
  have zw27 := cw27.size
  have gw27 : Blk w27 b6 [.bool false, (.slice none 0 0), (.slice none 0 0)] 38 := fw27
  refine av rfl rfl (wl_nil (q_n (k26 _ _ ?_)))
  refine sx_retc ?_
  refine q_r (sx_ret2 Tryz.results77 ⟨_, rfl, gw27.loadA (vs := [.bool false, (.slice none 0 0), (.slice none 0 0)]) (look_lit rfl) Tryz.isAgg38 Tryz.sizeOf38⟩ rfl ?_)
  first | rw [rDiv_no (by assumption)] | rw [rDiv_ok hR1 hR2, rR_zero (by rw [len_zero.1 (show (dg x2.natAbs).length = 0 by omega), Nat.mul_zero])]
  have q29 := Chg.step (l := 0) (h := 0) (Chg.zero (l := 0) (h := 0) (((cb2.t cb4).t cb6).t c25)) cw27 (by omega)
  exact ⟨_, _, w.heap.size, w.heap.size, w.heap.size, w.heap.size, rfl, Own.nil _ _ _ _ _, Own.nil _ _ _ _ _, by omega, ⟨by simp [noR], by simp [noR]⟩, q29⟩
 have hR1 := (Decidable.not_not.1 h82).1
 have hR2 := (Decidable.not_not.1 h82).2
 obtain ⟨x1, e1, rfl, rfl, rfl, hp1, hx1, hy1, hg1⟩ := hR1.rat
 obtain ⟨x2, e2, rfl, rfl, rfl, hp2, hx2, hy2, hg2⟩ := hR2.rat
 have l1 := len_mul x1.natAbs e2
 have l2 := len_mul x2.natAbs e1
 have l3 := len_mul e1 e2
 have a1 : (x1 * (e2 : Int)).natAbs = x1.natAbs * e2 := by rw [Int.natAbs_mul, Int.natAbs_natCast]
 have a2 : (x2 * (e1 : Int)).natAbs = x2.natAbs * e1 := by rw [Int.natAbs_mul, Int.natAbs_natCast]
 have l4 := len_addI (x1 * (e2 : Int)) (x2 * (e1 : Int))
 rw [a1, a2] at l4
 have l5 := len_mul e1 x2.natAbs
 have l6 := len_mul x1.natAbs x2.natAbs
 refine sx_guardT rfl rfl rfl ?_
 refine sp rfl (px_field rfl xfld38x0) ?_
 refine sx_guardT rfl rfl rfl ?_
 refine sp rfl (px_field rfl xfld30x1) ?_
 refine sx_guardT rfl rfl rfl ?_
 have f30 := f12.ext c25
 refine sp rfl (px_load rfl (f30.load1 rfl Tryz.isAgg28)) ?_
 refine sx_guardT rfl rfl rfl ?_
 have f31 := f21.ext c25
 refine sp rfl (px_len rfl Tryz.underlying28 f31) ?_
 refine sx_guardT rfl rfl rfl ?_
 refine sp rfl (px_eq rfl rfl) ?_
 refine sp rfl (px_pick rfl rfl) ?_
 refine wl_nil (q_n (k9 _ _ ?_))
 refine sx_sub (Sub.c 2 rfl (.c 3 rfl (.c 4 rfl (.c 5 rfl (.c 16 rfl .nil))))) ?_
 refine sx_condP rfl (fun h82x1 => ?_) (fun h82x1 => ?_)
 ·
  refine sx_seq fun K32 k32 => sx_region ?_
  refine sp rfl (px_build rfl (xbld38x  _)) ?_
  have f34 := fb6.ext c25
  refine sx_store (vs := [.bool false, (.slice none 0 0), (.slice none 0 0)]) rfl rfl f34 rfl Tryz.sizeOf38 (nbl rfl) (o3 rfl rfl rfl) (fun w33 sw33 fw33 cw33 => ?_)
  have zw33 := cw33.size
  have gw33 : Blk w33 b6 [.bool false, (.slice none 0 0), (.slice none 0 0)] 38 := fw33
  refine av rfl rfl (wl_nil (q_n (k32 _ _ ?_)))
  refine sx_retc ?_
  refine q_r (sx_ret2 Tryz.results77 ⟨_, rfl, gw33.loadA (vs := [.bool false, (.slice none 0 0), (.slice none 0 0)]) (look_lit rfl) Tryz.isAgg38 Tryz.sizeOf38⟩ rfl ?_)
  first | rw [rDiv_no (by assumption)] | rw [rDiv_ok hR1 hR2, rR_zero (by rw [len_zero.1 (show (dg x2.natAbs).length = 0 by omega), Nat.mul_zero])]
  have q35 := Chg.step (l := 0) (h := 0) (Chg.zero (l := 0) (h := 0) (((cb2.t cb4).t cb6).t c25)) cw33 (by omega)
  exact ⟨_, _, w.heap.size, w.heap.size, w.heap.size, w.heap.size, rfl, Own.nil _ _ _ _ _, Own.nil _ _ _ _ _, by omega, ⟨by simp [noR], by simp [noR]⟩, q35⟩
 refine sx_skip ?_
 refine q_n (k8 _ _ ?_)
 refine sx_seq fun K36 k36 => ?_
 have f37 := f11.ext c25
 refine dx_region (fun w' => Chg b6 (b6 + 1) w25 w') (by kernel_rfl) (Chg.zero (Chg.drew _)) ?_
 have d41 := Chg.drew w25
 have s41 : Chg b6 (b6 + 1) w25 (World.drew w25) := Chg.zero (Chg.drew _)
 have y41 : (World.drew w25).heap.size = w25.heap.size := rfl
 generalize World.drew w25 = w41 at *
 have zw41 := d41.size
 refine dt 0 rfl rfl rfl rfl s41 (fun _ hS => px_field rfl xfld38x0) ?_
 refine dt 1 rfl rfl rfl rfl s41 (fun _ hS => px_field rfl xfld30x0) ?_
 refine dt 2 rfl rfl rfl rfl s41 (fun _ hS => px_load rfl ((f37.chg hS (by omega)).load1 rfl Tryz.isAgg4)) ?_
 refine dt 3 rfl rfl rfl rfl s41 (fun _ hS => px_field rfl xfld38x0) ?_
 refine dt 4 rfl rfl rfl rfl s41 (fun _ hS => px_field rfl xfld30x0) ?_
 refine dt 5 rfl rfl rfl rfl s41 (fun _ hS => px_load rfl ((f30.chg hS (by omega)).load1 rfl Tryz.isAgg4)) ?_
 refine dt 6 rfl rfl rfl rfl s41 (fun _ hS => px_neB Tryz.underlying4 rfl rfl) ?_
 refine dt 7 rfl rfl rfl rfl s41 (fun _ hS => px_field rfl xfld38x0) ?_
 refine dt 8 rfl rfl rfl rfl s41 (fun _ hS => px_field rfl xfld30x1) ?_
 refine dt 9 rfl rfl rfl rfl s41 (fun _ hS => px_load rfl ((f37.chg hS (by omega)).load1 rfl Tryz.isAgg28)) ?_
 refine dt 10 rfl rfl rfl rfl s41 (fun _ hS => px_field rfl xfld38x1) ?_
 refine dt 11 rfl rfl rfl rfl s41 (fun _ hS => px_load rfl ((f30.chg hS (by omega)).load1 rfl Tryz.isAgg28)) ?_
 refine dt 14 rfl rfl rfl rfl s41 (fun _ hS => px_field rfl xfld38x1) ?_
 refine dt 15 rfl rfl rfl rfl s41 (fun _ hS => px_load rfl ((f37.chg hS (by omega)).load1 rfl Tryz.isAgg28)) ?_
 refine dt 16 rfl rfl rfl rfl s41 (fun _ hS => px_field rfl xfld38x0) ?_
 refine dt 17 rfl rfl rfl rfl s41 (fun _ hS => px_field rfl xfld30x1) ?_
 refine dt 18 rfl rfl rfl rfl s41 (fun _ hS => px_load rfl ((f30.chg hS (by omega)).load1 rfl Tryz.isAgg28)) ?_
 refine dx_eff 12 rfl (by kernel_rfl) ?_
 have f42 := (f15.ext c25).ext d41
 have f43 := (f24.ext c25).ext d41
 refine sx_call rfl rfl Tryz.call21 (c_natMul f42 f43 (by omega) (by omega)) (fun v44 w44 p44 => ?_)
 obtain ⟨s44, rfl, os_44, c44⟩ := p44
 have zw44 := c44.size
 have s45 : Chg b6 (b6 + 1) w25 w44 := (Chg.zero (l := b6) (h := (b6 + 1)) (d41.t c44))
 refine wl_nil ?_
 refine dx_next s45 ?_
 refine dx_eff 13 rfl (by kernel_rfl) ?_
 refine sx_call rfl rfl Tryz.call20 (c_signed os_44.sv (by omega)) (fun v46 w46 p46 => ?_)
 obtain ⟨rfl, c46⟩ := p46
 have zw46 := c46.size
 have s47 : Chg b6 (b6 + 1) w25 w46 := (Chg.zero (l := b6) (h := (b6 + 1)) ((d41.t c44).t c46))
 refine wl_nil ?_
 refine dx_next s47 ?_
 refine dx_eff 19 rfl (by kernel_rfl) ?_
 have f50 := (((f18.ext c25).ext d41).ext c44).ext c46
 have f53 := ((f31.ext d41).ext c44).ext c46
 refine sx_call rfl rfl Tryz.call21 (c_natMul f50 f53 (by omega) (by omega)) (fun v54 w54 p54 => ?_)
 obtain ⟨s54, rfl, os_54, c54⟩ := p54
 have zw54 := c54.size
 have s55 : Chg b6 (b6 + 1) w25 w54 := (Chg.zero (l := b6) (h := (b6 + 1)) (((d41.t c44).t c46).t c54))
 refine wl_nil ?_
 refine dx_next s55 ?_
 refine dx_eff 20 rfl (by kernel_rfl) ?_
 have f57 := (os_44.ext c46).ext c54
 refine sx_call rfl rfl Tryz.call50 (c_reduce f57.sv os_54.sv (by omega) (by omega) (Nat.mul_pos hp1 (len_pos.1 (by omega)))) (fun v58 w58 p58 => ?_)
 obtain ⟨s58, t58, ls58, us58, lt58, ut58, rfl, os_58, ot_58, hd58, hl58, c58⟩ := p58
 have zw58 := c58.size
 have s59 : Chg b6 (b6 + 1) w25 w58 := (Chg.zero (l := b6) (h := (b6 + 1)) ((((d41.t c44).t c46).t c54).t c58))
 refine wl_nil ?_
 refine dx_next s59 ?_
 refine dt 21 rfl rfl rfl rfl s59 (fun _ hS => px_ex2 rfl rfl) ?_
 refine dt 22 rfl rfl rfl rfl s59 (fun _ hS => px_ex2 rfl rfl) ?_
 refine dx_eff 23 rfl (by kernel_rfl) ?_
 have f66 := (((((fb6.ext c25).ext d41).ext c44).ext c46).ext c54).ext c58
 refine sx_store (vs := [.bool ((rR (sgI (nz ((ng x1) != (ng x2)) (dg (x1.natAbs * e2))) (x1.natAbs * e2)) (e1 * x2.natAbs)).1), s58, t58]) rfl rfl f66 rfl Tryz.sizeOf38 (nbl rfl) (one_cons rfl (one_cons os_58.one (one_cons ot_58.one one_nil))) (fun w60 sw60 fw60 cw60 => ?_)
 have zw60 := cw60.size
 have gw60 : Blk w60 b6 [.bool ((rR (sgI (nz ((ng x1) != (ng x2)) (dg (x1.natAbs * e2))) (x1.natAbs * e2)) (e1 * x2.natAbs)).1), s58, t58] 38 := fw60
 have q68 := Chg.step (l := b6) (h := (b6 + 1)) (Chg.zero (l := b6) (h := (b6 + 1)) ((((d41.t c44).t c46).t c54).t c58)) cw60 (by omega)
 have s67 : Chg b6 (b6 + 1) w25 w60 := q68
 refine wl_nil ?_
 refine dx_next s67 ?_
 refine dt 24 rfl rfl rfl rfl s67 (fun _ hS => px_assign rfl) ?_
 refine dx_done (by kernel_rfl) ?_
 refine q_n (k36 _ _ ?_)
 refine sx_sub (Sub.c 4 rfl (.c 5 rfl .nil)) ?_
 refine sx_retc ?_
 refine sx_ret2 Tryz.results77 ⟨_, rfl, gw60.loadA (vs := [.bool ((rR (sgI (nz ((ng x1) != (ng x2)) (dg (x1.natAbs * e2))) (x1.natAbs * e2)) (e1 * x2.natAbs)).1), s58, t58]) (look_lit rfl) Tryz.isAgg38 Tryz.sizeOf38⟩ rfl ?_
 have hrl := rDiv_len (n1 := ng x1) (z1 := dg x1.natAbs) (y1 := dg e1) (n2 := ng x2) (z2 := dg x2.natAbs) (y2 := dg e2)
 have hre : rDiv (ng x1) (dg x1.natAbs) (dg e1) (ng x2) (dg x2.natAbs) (dg e2) = rR (sgI (nz (ng x1 != ng x2) (dg (x1.natAbs * e2))) (x1.natAbs * e2)) (e1 * x2.natAbs) := by rw [rDiv_ok hR1 hR2, sgI_nz]
 rw [hre] at hrl ⊢
 have q69 := Chg.step (l := 0) (h := 0) (Chg.zero (l := 0) (h := 0) ((((((((cb2.t cb4).t cb6).t c25).t d41).t c44).t c46).t c54).t c58)) cw60 (by omega)
 have f70 := os_58.chg cw60 (by omega)
 have f71 := ot_58.chg cw60 (by omega)
 exact ⟨_, _, _, _, _, _, rfl, f70, f71, by omega, hrl, q69⟩

theorem c_intMul {w : World} {va : Value} {lva uva : Nat} {x : Int} {vb : Value} {lvb uvb : Nat} {y : Int} (hva : Sl w lva uva va (dg x.natAbs)) (hvb : Sl w lvb uvb vb (dg y.natAbs)) (hbx : (dg x.natAbs).length ≤ 1000) (hby : (dg y.natAbs).length ≤ 1000) :
  Ret Tryz.prog 60 [.agg #[.bool (ng x), va], .agg #[.bool (ng y), vb]] w fun v w' => ∃ s, v = .agg #[.bool (ng (x * y)), s] ∧ OwnI w' w.heap.size w'.heap.size s intT (dg (x * y).natAbs) ∧ Chg 0 0 w w' := by
 have hva0 := hva.fit
 have hvb0 := hvb.fit
 have l1 := len_mul x.natAbs y.natAbs
 refine sx_enter Tryz.func60 rfl Tryz.ntmps60 (nbl rfl) ?_
 refine sx_seq fun K1 k1 => sx_region ?_
 refine sx_box [.bool (ng x), va] rfl rfl rfl (fun b2 w3 eb2 sb2 fb2 cb2 => ?_)
 have zw3 := cb2.size
 refine sx_box [.bool (ng y), vb] rfl rfl rfl (fun b4 w5 eb4 sb4 fb4 cb4 => ?_)
 have zw5 := cb4.size
 refine sx_alloc [.bool false, (.slice none 0 0)] rfl Tryz.zeroValue30 rfl (fun b6 w7 eb6 sb6 fb6 cb6 => ?_)
 have zw7 := cb6.size
 refine wl_nil (q_n (k1 _ _ ?_))
 refine sx_seq fun K8 k8 => ?_
 have f9 := fb2.ext cb4
 have f10 := f9.ext cb6
 have f11 := fb4.ext cb6
 have f12 := hva0.ext cb2
 have f13 := f12.ext cb4
 have f14 := f13.ext cb6
 have f15 := hvb0.ext cb2
 have f16 := f15.ext cb4
 have f17 := f16.ext cb6
 refine dx_region (fun w' => Chg b6 (b6 + 1) w7 w') (by kernel_rfl) (Chg.zero (Chg.drew _)) ?_
 have d18 := Chg.drew w7
 have s18 : Chg b6 (b6 + 1) w7 (World.drew w7) := Chg.zero (Chg.drew _)
 have y18 : (World.drew w7).heap.size = w7.heap.size := rfl
 generalize World.drew w7 = w18 at *
 have zw18 := d18.size
 refine dt 0 rfl rfl rfl rfl s18 (fun _ hS => px_field rfl xfld30x0) ?_
 refine dt 1 rfl rfl rfl rfl s18 (fun _ hS => px_load rfl ((f10.chg hS (by omega)).load1 rfl Tryz.isAgg4)) ?_
 refine dt 2 rfl rfl rfl rfl s18 (fun _ hS => px_field rfl xfld30x0) ?_
 refine dt 3 rfl rfl rfl rfl s18 (fun _ hS => px_load rfl ((f11.chg hS (by omega)).load1 rfl Tryz.isAgg4)) ?_
 refine dt 4 rfl rfl rfl rfl s18 (fun _ hS => px_neB Tryz.underlying4 rfl rfl) ?_
 refine dt 5 rfl rfl rfl rfl s18 (fun _ hS => px_field rfl xfld30x1) ?_
 refine dt 6 rfl rfl rfl rfl s18 (fun _ hS => px_load rfl ((f10.chg hS (by omega)).load1 rfl Tryz.isAgg28)) ?_
 refine dt 7 rfl rfl rfl rfl s18 (fun _ hS => px_field rfl xfld30x1) ?_
 refine dt 8 rfl rfl rfl rfl s18 (fun _ hS => px_load rfl ((f11.chg hS (by omega)).load1 rfl Tryz.isAgg28)) ?_
 refine dx_eff 9 rfl (by kernel_rfl) ?_
 have f19 := f14.ext d18
 have f20 := f17.ext d18
 refine sx_call rfl rfl Tryz.call21 (c_natMul f19 f20 (by omega) (by omega)) (fun v21 w21 p21 => ?_)
 obtain ⟨s21, rfl, os_21, c21⟩ := p21
 have zw21 := c21.size
 have s22 : Chg b6 (b6 + 1) w7 w21 := (Chg.zero (l := b6) (h := (b6 + 1)) (d18.t c21))
 refine wl_nil ?_
 refine dx_next s22 ?_
 refine dx_eff 10 rfl (by kernel_rfl) ?_
 refine sx_call rfl rfl Tryz.call20 (c_signed os_21.sv (by omega)) (fun v23 w23 p23 => ?_)
 obtain ⟨rfl, c23⟩ := p23
 have zw23 := c23.size
 have s24 : Chg b6 (b6 + 1) w7 w23 := (Chg.zero (l := b6) (h := (b6 + 1)) ((d18.t c21).t c23))
 refine wl_nil ?_
 refine dx_next s24 ?_
 refine dx_eff 11 rfl (by kernel_rfl) ?_
 have f28 := ((fb6.ext d18).ext c21).ext c23
 have f29 := os_21.ext c23
 refine sx_store (vs := [.bool (nz ((ng x) != (ng y)) (dg (x.natAbs * y.natAbs))), v21]) rfl rfl f28 rfl Tryz.sizeOf30 (nbl rfl) (one_cons rfl (one_cons f29.one one_nil)) (fun w25 sw25 fw25 cw25 => ?_)
 have zw25 := cw25.size
 have gw25 : Blk w25 b6 [.bool (nz ((ng x) != (ng y)) (dg (x.natAbs * y.natAbs))), v21] 30 := fw25
 have q31 := Chg.step (l := b6) (h := (b6 + 1)) (Chg.zero (l := b6) (h := (b6 + 1)) ((d18.t c21).t c23)) cw25 (by omega)
 have s30 : Chg b6 (b6 + 1) w7 w25 := q31
 refine wl_nil ?_
 refine dx_next s30 ?_
 refine dx_done (by kernel_rfl) ?_
 refine q_n (k8 _ _ ?_)
 refine sx_sub (Sub.c 4 rfl .nil) ?_
 refine sx_retc ?_
 refine sx_ret1 Tryz.results60 ⟨_, rfl, gw25.loadA (vs := [.bool (nz ((ng x) != (ng y)) (dg (x.natAbs * y.natAbs))), v21]) (look_lit rfl) Tryz.isAgg30 Tryz.sizeOf30⟩ ?_
 have hh := mul_sg x y
 rw [← hh.1, ← hh.2]
 have q32 := Chg.step (l := 0) (h := 0) (Chg.zero (l := 0) (h := 0) (((((cb2.t cb4).t cb6).t d18).t c21).t c23)) cw25 (by omega)
 have f33 := f29.chg cw25 (by omega)
 exact ⟨_, rfl, (Own.mono f33 (by omega) (by omega)), q32⟩

theorem c_iRatMul {w : World} {n1 : Bool} {v1 : Value} {lv1 uv1 : Nat} {z1 : List Int} {d1 : Value} {ld1 ud1 : Nat} {y1 : List Int} {n2 : Bool} {v2 : Value} {lv2 uv2 : Nat} {z2 : List Int} {d2 : Value} {ld2 ud2 : Nat} {y2 : List Int} (hv1 : Sl w lv1 uv1 v1 (z1)) (hd1 : Sl w ld1 ud1 d1 (y1)) (hv2 : Sl w lv2 uv2 v2 (z2)) (hd2 : Sl w ld2 ud2 d2 (y2)) (h63 : z1.length ≤ 4611686018427387904 ∧ y1.length ≤ 4611686018427387904 ∧ z2.length ≤ 4611686018427387904 ∧ y2.length ≤ 4611686018427387904) :
  Ret Tryz.prog 27 [.agg #[.bool n1, v1, d1], .agg #[.bool n2, v2, d2]] w fun v w' => ∃ s t ls us lt ut, v = .tuple #[.agg #[.bool ((rMul n1 z1 y1 n2 z2 y2).1), s, t], .bool ((rMul n1 z1 y1 n2 z2 y2).2.2.2)] ∧ OwnI w' (ls) (us) s intT ((rMul n1 z1 y1 n2 z2 y2).2.1) ∧ OwnI w' (lt) (ut) t intT ((rMul n1 z1 y1 n2 z2 y2).2.2.1) ∧ (w.heap.size ≤ ls ∧ us ≤ w'.heap.size ∧ w.heap.size ≤ lt ∧ ut ≤ w'.heap.size ∧ (us ≤ lt ∨ ut ≤ ls)) ∧ ((rMul n1 z1 y1 n2 z2 y2).2.1.length ≤ 18 ∧ (rMul n1 z1 y1 n2 z2 y2).2.2.1.length ≤ 18) ∧ Chg 0 0 w w' := by
 have hv10 := hv1.fit
 have hd10 := hd1.fit
 have hv20 := hv2.fit
 have hd20 := hd2.fit
 refine sx_enter Tryz.func27 rfl Tryz.ntmps27 (nbl rfl) ?_
 refine sx_seq fun K1 k1 => sx_region ?_
 refine sx_box [.bool n1, v1, d1] rfl rfl rfl (fun b2 w3 eb2 sb2 fb2 cb2 => ?_)
 have zw3 := cb2.size
 refine sx_box [.bool n2, v2, d2] rfl rfl rfl (fun b4 w5 eb4 sb4 fb4 cb4 => ?_)
 have zw5 := cb4.size
 refine sx_alloc [.bool false, (.slice none 0 0), (.slice none 0 0)] rfl Tryz.zeroValue38 rfl (fun b6 w7 eb6 sb6 fb6 cb6 => ?_)
 have zw7 := cb6.size
 refine av rfl rfl (wl_nil (q_n (k1 _ _ ?_)))
 refine sx_seq fun K8 k8 => ?_
 refine sx_seq fun K9 k9 => sx_region ?_
 have f10 := fb2.ext cb4
 have f11 := f10.ext cb6
 refine sp rfl (px_load rfl (f11.loadA (vs := [.bool n1, v1, d1]) (look_lit rfl) Tryz.isAgg38 Tryz.sizeOf38)) ?_
 have f12 := fb4.ext cb6
 refine sp rfl (px_load rfl (f12.loadA (vs := [.bool n2, v2, d2]) (look_lit rfl) Tryz.isAgg38 Tryz.sizeOf38)) ?_
 have f13 := hv10.ext cb2
 have f14 := f13.ext cb4
 have f15 := f14.ext cb6
 have f16 := hd10.ext cb2
 have f17 := f16.ext cb4
 have f18 := f17.ext cb6
 have f19 := hv20.ext cb2
 have f20 := f19.ext cb4
 have f21 := f20.ext cb6
 have f22 := hd20.ext cb2
 have f23 := f22.ext cb4
 have f24 := f23.ext cb6
 refine sx_call rfl rfl Tryz.call32 (c_ratsOk f15 f18 f21 f24 (by omega)) (fun v25 w25 p25 => ?_)
 obtain ⟨rfl, c25⟩ := p25
 have zw25 := c25.size
 refine sp rfl (px_notP rfl) ?_
 refine wl_nil (q_n (k9 _ _ ?_))
 refine sx_condP rfl (fun h74 => ?_) (fun h74 => ?_)
 ·
  refine sx_seq fun K26 k26 => sx_region ?_
  refine sp rfl (px_build rfl (xbld38x  _)) ?_
  have f28 := fb6.ext c25
  refine sx_store (vs := [.bool false, (.slice none 0 0), (.slice none 0 0)]) rfl rfl f28 rfl Tryz.sizeOf38 (nbl rfl) (o3 rfl rfl rfl) (fun w27 sw27 fw27 cw27 => ?_)
  have zw27 := cw27.size
  have gw27 : Blk w27 b6 [.bool false, (.slice none 0 0), (.slice none 0 0)] 38 := fw27
  refine av rfl rfl (wl_nil (q_n (k26 _ _ ?_)))
  refine sx_retc ?_
  refine q_r (sx_ret2 Tryz.results27 ⟨_, rfl, gw27.loadA (vs := [.bool false, (.slice none 0 0), (.slice none 0 0)]) (look_lit rfl) Tryz.isAgg38 Tryz.sizeOf38⟩ rfl ?_)
  rw [rMul_no h74]
  have q29 := Chg.step (l := 0) (h := 0) (Chg.zero (l := 0) (h := 0) (((cb2.t cb4).t cb6).t c25)) cw27 (by omega)
  exact ⟨_, _, w.heap.size, w.heap.size, w.heap.size, w.heap.size, rfl, Own.nil _ _ _ _ _, Own.nil _ _ _ _ _, by omega, ⟨by simp [noR], by simp [noR]⟩, q29⟩
 have hR1 := (Decidable.not_not.1 h74).1
 have hR2 := (Decidable.not_not.1 h74).2
 obtain ⟨x1, e1, rfl, rfl, rfl, hp1, hx1, hy1, hg1⟩ := hR1.rat
 obtain ⟨x2, e2, rfl, rfl, rfl, hp2, hx2, hy2, hg2⟩ := hR2.rat
 have l1 := len_mul x1.natAbs e2
 have l2 := len_mul x2.natAbs e1
 have l3 := len_mul e1 e2
 have a1 : (x1 * (e2 : Int)).natAbs = x1.natAbs * e2 := by rw [Int.natAbs_mul, Int.natAbs_natCast]
 have a2 : (x2 * (e1 : Int)).natAbs = x2.natAbs * e1 := by rw [Int.natAbs_mul, Int.natAbs_natCast]
 have l4 := len_addI (x1 * (e2 : Int)) (x2 * (e1 : Int))
 rw [a1, a2] at l4
 have l5 := len_mul e1 x2.natAbs
 have l6 := len_mul x1.natAbs x2.natAbs
 have l7 := len_mulI x1 x2
 refine sx_skip ?_
 refine q_n (k8 _ _ ?_)
 refine sx_seq fun K30 k30 => ?_
 have f31 := f11.ext c25
 have f32 := f12.ext c25
 refine dx_region (fun w' => Chg b6 (b6 + 1) w25 w') (by kernel_rfl) (Chg.zero (Chg.drew _)) ?_
 have d37 := Chg.drew w25
 have s37 : Chg b6 (b6 + 1) w25 (World.drew w25) := Chg.zero (Chg.drew _)
 have y37 : (World.drew w25).heap.size = w25.heap.size := rfl
 generalize World.drew w25 = w37 at *
 have zw37 := d37.size
 refine dt 0 rfl rfl rfl rfl s37 (fun _ hS => px_field rfl xfld38x0) ?_
 refine dt 1 rfl rfl rfl rfl s37 (fun _ hS => px_load rfl ((f31.chg hS (by omega)).loadA (vs := [.bool (ng x1), v1]) (look_lit rfl) Tryz.isAgg30 Tryz.sizeOf30)) ?_
 refine dt 2 rfl rfl rfl rfl s37 (fun _ hS => px_field rfl xfld38x0) ?_
 refine dt 3 rfl rfl rfl rfl s37 (fun _ hS => px_load rfl ((f32.chg hS (by omega)).loadA (vs := [.bool (ng x2), v2]) (look_lit rfl) Tryz.isAgg30 Tryz.sizeOf30)) ?_
 refine dt 5 rfl rfl rfl rfl s37 (fun _ hS => px_field rfl xfld38x1) ?_
 refine dt 6 rfl rfl rfl rfl s37 (fun _ hS => px_load rfl ((f31.chg hS (by omega)).load1 rfl Tryz.isAgg28)) ?_
 refine dt 7 rfl rfl rfl rfl s37 (fun _ hS => px_field rfl xfld38x1) ?_
 refine dt 8 rfl rfl rfl rfl s37 (fun _ hS => px_load rfl ((f32.chg hS (by omega)).load1 rfl Tryz.isAgg28)) ?_
 refine dx_eff 4 rfl (by kernel_rfl) ?_
 have f38 := (f15.ext c25).ext d37
 have f39 := (f21.ext c25).ext d37
 refine sx_call rfl rfl Tryz.call60 (c_intMul f38 f39 (by omega) (by omega)) (fun v40 w40 p40 => ?_)
 obtain ⟨s40, rfl, os_40, c40⟩ := p40
 have zw40 := c40.size
 have s41 : Chg b6 (b6 + 1) w25 w40 := (Chg.zero (l := b6) (h := (b6 + 1)) (d37.t c40))
 refine wl_nil ?_
 refine dx_next s41 ?_
 refine dx_eff 9 rfl (by kernel_rfl) ?_
 have f43 := ((f18.ext c25).ext d37).ext c40
 have f45 := ((f24.ext c25).ext d37).ext c40
 refine sx_call rfl rfl Tryz.call21 (c_natMul f43 f45 (by omega) (by omega)) (fun v46 w46 p46 => ?_)
 obtain ⟨s46, rfl, os_46, c46⟩ := p46
 have zw46 := c46.size
 have s47 : Chg b6 (b6 + 1) w25 w46 := (Chg.zero (l := b6) (h := (b6 + 1)) ((d37.t c40).t c46))
 refine wl_nil ?_
 refine dx_next s47 ?_
 refine dx_eff 10 rfl (by kernel_rfl) ?_
 have f48 := os_40.ext c46
 refine sx_call rfl rfl Tryz.call50 (c_reduce f48.sv os_46.sv (by omega) (by omega) (Nat.mul_pos hp1 hp2)) (fun v49 w49 p49 => ?_)
 obtain ⟨s49, t49, ls49, us49, lt49, ut49, rfl, os_49, ot_49, hd49, hl49, c49⟩ := p49
 have zw49 := c49.size
 have s50 : Chg b6 (b6 + 1) w25 w49 := (Chg.zero (l := b6) (h := (b6 + 1)) (((d37.t c40).t c46).t c49))
 refine wl_nil ?_
 refine dx_next s50 ?_
 refine dt 11 rfl rfl rfl rfl s50 (fun _ hS => px_ex2 rfl rfl) ?_
 refine dt 12 rfl rfl rfl rfl s50 (fun _ hS => px_ex2 rfl rfl) ?_
 refine dx_eff 13 rfl (by kernel_rfl) ?_
 have f56 := ((((fb6.ext c25).ext d37).ext c40).ext c46).ext c49
 refine sx_store (vs := [.bool ((rR (sgI (ng (x1 * x2)) ((x1 * x2).natAbs)) (e1 * e2)).1), s49, t49]) rfl rfl f56 rfl Tryz.sizeOf38 (nbl rfl) (one_cons rfl (one_cons os_49.one (one_cons ot_49.one one_nil))) (fun w51 sw51 fw51 cw51 => ?_)
 have zw51 := cw51.size
 have gw51 : Blk w51 b6 [.bool ((rR (sgI (ng (x1 * x2)) ((x1 * x2).natAbs)) (e1 * e2)).1), s49, t49] 38 := fw51
 have q58 := Chg.step (l := b6) (h := (b6 + 1)) (Chg.zero (l := b6) (h := (b6 + 1)) (((d37.t c40).t c46).t c49)) cw51 (by omega)
 have s57 : Chg b6 (b6 + 1) w25 w51 := q58
 refine wl_nil ?_
 refine dx_next s57 ?_
 refine dt 14 rfl rfl rfl rfl s57 (fun _ hS => px_assign rfl) ?_
 refine dx_done (by kernel_rfl) ?_
 refine q_n (k30 _ _ ?_)
 refine sx_sub (Sub.c 4 rfl (.c 5 rfl .nil)) ?_
 refine sx_retc ?_
 refine sx_ret2 Tryz.results27 ⟨_, rfl, gw51.loadA (vs := [.bool ((rR (sgI (ng (x1 * x2)) ((x1 * x2).natAbs)) (e1 * e2)).1), s49, t49]) (look_lit rfl) Tryz.isAgg38 Tryz.sizeOf38⟩ rfl ?_
 have hrl := rMul_len (n1 := ng x1) (z1 := dg x1.natAbs) (y1 := dg e1) (n2 := ng x2) (z2 := dg x2.natAbs) (y2 := dg e2)
 have hre : rMul (ng x1) (dg x1.natAbs) (dg e1) (ng x2) (dg x2.natAbs) (dg e2) = rR (sgI (ng (x1 * x2)) (x1 * x2).natAbs) (e1 * e2) := by rw [rMul_ok hR1 hR2, sgI_ng, ← sgI_nz, (mul_sg x1 x2).1, ← Int.natAbs_mul, sgI_ng]
 rw [hre] at hrl ⊢
 have q59 := Chg.step (l := 0) (h := 0) (Chg.zero (l := 0) (h := 0) (((((((cb2.t cb4).t cb6).t c25).t d37).t c40).t c46).t c49)) cw51 (by omega)
 have f60 := os_49.chg cw51 (by omega)
 have f61 := ot_49.chg cw51 (by omega)
 exact ⟨_, _, _, _, _, _, rfl, f60, f61, by omega, hrl, q59⟩

theorem c_iRateOfNp {w : World} {pv : ByteArray} {vt : Value} {lvt uvt : Nat} {ts : List Rt} {vvt : List Value} {a : ByteArray} {b : ByteArray} (hG0 : Glob w) (hvt : RtS w lvt uvt vt ts vvt) (h63 : ts.length ≤ 4611686018427387904) (hz : ∀ i, i < ts.length → (ts.getD i rt0).2.2.2.1.length ≤ 4611686018427387904) (h4 : how pv ts a b ≠ 4) :
  Ret Tryz.prog 47 [.agg #[.string pv, vt], .string a, .string b] w fun v w' => ∃ s t ls us lt ut, v = .tuple #[.agg #[.bool ((rOf pv ts a b).1), s, t], .bool ((rOf pv ts a b).2.2.2)] ∧ OwnI w' (ls) (us) s intT ((rOf pv ts a b).2.1) ∧ OwnI w' (lt) (ut) t intT ((rOf pv ts a b).2.2.1) ∧ (w.heap.size ≤ ls ∧ us ≤ w'.heap.size ∧ w.heap.size ≤ lt ∧ ut ≤ w'.heap.size ∧ (us ≤ lt ∨ ut ≤ ls)) ∧ ((rOf pv ts a b).2.1.length ≤ 18 ∧ (rOf pv ts a b).2.2.1.length ≤ 18) ∧ Chg 0 0 w w' := by
 have hvt0 := hvt.fit
 refine sx_enter Tryz.func47 rfl Tryz.ntmps47 (nbl rfl) ?_
 refine sx_seq fun K1 k1 => sx_region ?_
 refine sx_box [.string pv, vt] rfl rfl rfl (fun b2 w3 eb2 sb2 fb2 cb2 => ?_)
 have zw3 := cb2.size
 refine sx_alloc [.bool false, (.slice none 0 0), (.slice none 0 0)] rfl Tryz.zeroValue38 rfl (fun b4 w5 eb4 sb4 fb4 cb4 => ?_)
 have zw5 := cb4.size
 refine av rfl rfl (wl_nil (q_n (k1 _ _ ?_)))
 refine sx_seq fun K6 k6 => ?_
 refine sx_seq fun K7 k7 => sx_region ?_
 have f8 := fb2.ext cb4
 refine sp rfl (px_load rfl (f8.loadA (vs := [.string pv, vt]) (look_lit rfl) Tryz.isAgg25 Tryz.sizeOf25)) ?_
 refine mv rfl rfl (mv rfl rfl ?_)
 have f9 := hG0.ext cb2
 have f10 := f9.ext cb4
 have f11 := hvt0.ext cb2
 have f12 := f11.ext cb4
 refine sx_call rfl rfl Tryz.call73 (c_iRateHow f10 f12 (by omega) (by first | assumption | exact fun i hi => Nat.le_trans (hzz i hi) (by omega))) (fun v13 w13 p13 => ?_)
 obtain ⟨rfl, c13⟩ := p13
 have zw13 := c13.size
 refine wl_nil (q_n (k7 _ _ ?_))
 refine sx_block ?_
 refine sx_seq fun K14 k14 => sx_region ?_
 refine sp rfl (px_eq rfl rfl) ?_
 refine av rfl rfl (wl_nil (q_n (k14 _ _ ?_)))
 refine sx_condP rfl (fun h125 => ?_) (fun h125 => ?_)
 ·
  refine sx_seq fun K15 k15 => sx_region ?_
  refine sx_call rfl rfl Tryz.call28 (c_iIntOf (by omega)) (fun v16 w16 p16 => ?_)
  obtain ⟨s16, rfl, os_16, c16⟩ := p16
  have zw16 := c16.size
  refine sx_call rfl rfl Tryz.call74 (c_iRatInt os_16.sv (by have h9 := len_i64 (n := 1) (by omega); omega)) (fun v17 w17 p17 => ?_)
  obtain ⟨s17, t17, ls17, us17, lt17, ut17, rfl, os_17, ot_17, hd17, hl17, c17⟩ := p17
  have zw17 := c17.size
  refine sp rfl (px_ex2 rfl rfl) ?_
  refine sp rfl (px_ex2 rfl rfl) ?_
  have f21 := ((fb4.ext c13).ext c16).ext c17
  refine sx_store (vs := [.bool ((rInt (ng (1 : Int)) (dg ((1 : Int)).natAbs)).1), s17, t17]) rfl rfl f21 rfl Tryz.sizeOf38 (nbl rfl) (one_cons rfl (one_cons os_17.one (one_cons ot_17.one one_nil))) (fun w18 sw18 fw18 cw18 => ?_)
  have zw18 := cw18.size
  have gw18 : Blk w18 b4 [.bool ((rInt (ng (1 : Int)) (dg ((1 : Int)).natAbs)).1), s17, t17] 38 := fw18
  refine av rfl rfl (wl_nil (q_n (k15 _ _ ?_)))
  refine sx_sub (Sub.c 6 rfl (.c 7 rfl .nil)) ?_
  refine sx_retc ?_
  refine q_br (q_r (sx_ret2 Tryz.results47 ⟨_, rfl, gw18.loadA (vs := [.bool ((rInt (ng (1 : Int)) (dg ((1 : Int)).natAbs)).1), s17, t17]) (look_lit rfl) Tryz.isAgg38 Tryz.sizeOf38⟩ rfl ?_))
  have hrl := rOf_len (pv := pv) (ts := ts) (a := a) (b := b)
  rw [rOf_1 h125] at hrl ⊢
  have q22 := Chg.step (l := 0) (h := 0) (Chg.zero (l := 0) (h := 0) ((((cb2.t cb4).t c13).t c16).t c17)) cw18 (by omega)
  have f23 := os_17.chg cw18 (by omega)
  have f24 := ot_17.chg cw18 (by omega)
  exact ⟨_, _, _, _, _, _, rfl, f23, f24, by omega, hrl, q22⟩
 refine sx_seq fun K25 k25 => sx_region ?_
 refine sp rfl (px_eq rfl rfl) ?_
 refine av rfl rfl (wl_nil (q_n (k25 _ _ ?_)))
 refine sx_condP rfl (fun h127 => ?_) (fun h127 => ?_)
 ·
  refine sx_seq fun K26 k26 => sx_region ?_
  have f27 := f8.ext c13
  refine sp rfl (px_load rfl (f27.loadA (vs := [.string pv, vt]) (look_lit rfl) Tryz.isAgg25 Tryz.sizeOf25)) ?_
  refine mv rfl rfl (mv rfl rfl (sp rfl (px_build rfl (xbld118x0x1 rfl rfl _)) ?_))
  have f28 := f12.ext c13
  refine sx_call rfl rfl Tryz.call75 (c_listed f28 (by omega)) (fun v29 w29 p29 => ?_)
  obtain ⟨s29, rfl, os_29, c29⟩ := p29
  have zw29 := c29.size
  refine mv rfl rfl (sp rfl (px_ex2 rfl rfl) ?_)
  refine sp rfl (px_ex2 rfl rfl) ?_
  refine sx_alloc [.bool false, (.slice none 0 0), .int .i64 0] rfl Tryz.zeroValue73 rfl (fun b30 w31 eb30 sb30 fb30 cb30 => ?_)
  have zw31 := cb30.size
  have f33 := os_29.ext cb30
  refine sx_store (vs := [.bool ((lst ts a b).1), s29, .int .i64 ((lst ts a b).2.2.1)]) rfl rfl fb30 rfl Tryz.sizeOf73 (nbl rfl) (one_cons rfl (one_cons f33.one (o1 rfl))) (fun w32 sw32 fw32 cw32 => ?_)
  have zw32 := cw32.size
  have gw32 : Blk w32 b30 [.bool ((lst ts a b).1), s29, .int .i64 ((lst ts a b).2.2.1)] 73 := fw32
  refine av rfl rfl (wl_nil (q_n (k26 _ _ ?_)))
  refine sx_sub (Sub.c 6 rfl (.c 7 rfl (.c 8 rfl .nil))) ?_
  refine sx_seq fun K34 k34 => sx_region ?_
  refine sp rfl (px_load rfl (gw32.loadA (vs := [.bool ((lst ts a b).1), s29, .int .i64 ((lst ts a b).2.2.1)]) (look_lit rfl) Tryz.isAgg73 Tryz.sizeOf73)) ?_
  have f35 := f33.chg cw32 (by omega)
  refine sx_call rfl rfl Tryz.call76 (c_iDecRat f35 (by first | exact lst_len hz | exact hz _ (by omega) | (have h9 := len_i64 (n := 1) (by omega); omega))) (fun v36 w36 p36 => ?_)
  obtain ⟨s36, t36, ls36, us36, lt36, ut36, rfl, os_36, ot_36, hd36, hl36, c36⟩ := p36
  have zw36 := c36.size
  have f40 := ((fb4.ext c13).ext c29).ext cb30
  have f41 := f40.chg cw32 (by omega)
  have f42 := f41.ext c36
  refine sx_store (vs := [.bool ((dRat ((lst ts a b).1) ((lst ts a b).2.1) ((lst ts a b).2.2.1)).1), s36, t36]) rfl rfl f42 rfl Tryz.sizeOf38 (nbl rfl) (one_cons rfl (one_cons os_36.one (one_cons ot_36.one one_nil))) (fun w37 sw37 fw37 cw37 => ?_)
  have zw37 := cw37.size
  have gw37 : Blk w37 b4 [.bool ((dRat ((lst ts a b).1) ((lst ts a b).2.1) ((lst ts a b).2.2.1)).1), s36, t36] 38 := fw37
  refine av rfl rfl (wl_nil (q_n (k34 _ _ ?_)))
  refine sx_retc ?_
  refine q_br (q_r (sx_ret2 Tryz.results47 ⟨_, rfl, gw37.loadA (vs := [.bool ((dRat ((lst ts a b).1) ((lst ts a b).2.1) ((lst ts a b).2.2.1)).1), s36, t36]) (look_lit rfl) Tryz.isAgg38 Tryz.sizeOf38⟩ rfl ?_))
  have hrl := rOf_len (pv := pv) (ts := ts) (a := a) (b := b)
  have hps := (rOf_23 (.inl h127)).2.ok
  rw [← (rOf_23 (.inl h127)).1, rOf_2 h127] at hps
  rw [rOf_2 h127] at hrl ⊢
  have q43 := Chg.step (l := 0) (h := 0) (Chg.zero (l := 0) (h := 0) ((((cb2.t cb4).t c13).t c29).t cb30)) cw32 (by omega)
  have q44 := Chg.step (l := 0) (h := 0) q43 c36 (by omega)
  have q45 := Chg.step (l := 0) (h := 0) q44 cw37 (by omega)
  have f46 := os_36.chg cw37 (by omega)
  have f47 := ot_36.chg cw37 (by omega)
  exact ⟨_, _, _, _, _, _, by rw [hps], f46, f47, by omega, hrl, q45⟩
 refine sx_seq fun K48 k48 => sx_region ?_
 refine sp rfl (px_eq rfl rfl) ?_
 refine av rfl rfl (wl_nil (q_n (k48 _ _ ?_)))
 refine sx_sub (Sub.c 1 rfl (.c 2 rfl (.c 3 rfl (.c 6 rfl (.c 7 rfl (.c 19 rfl (.c 38 rfl .nil))))))) ?_
 refine sx_condP rfl (fun h130 => ?_) (fun h130 => ?_)
 ·
  refine sx_seq fun K49 k49 => sx_region ?_
  have f50 := f8.ext c13
  refine sp rfl (px_load rfl (f50.loadA (vs := [.string pv, vt]) (look_lit rfl) Tryz.isAgg25 Tryz.sizeOf25)) ?_
  refine mv rfl rfl (mv rfl rfl (sp rfl (px_build rfl (xbld118x0x1 rfl rfl _)) ?_))
  have f51 := f12.ext c13
  refine sx_call rfl rfl Tryz.call75 (c_listed f51 (by omega)) (fun v52 w52 p52 => ?_)
  obtain ⟨s52, rfl, os_52, c52⟩ := p52
  have zw52 := c52.size
  refine mv rfl rfl (sp rfl (px_ex2 rfl rfl) ?_)
  refine sp rfl (px_ex2 rfl rfl) ?_
  refine sx_alloc [.bool false, (.slice none 0 0), .int .i64 0] rfl Tryz.zeroValue73 rfl (fun b53 w54 eb53 sb53 fb53 cb53 => ?_)
  have zw54 := cb53.size
  have f56 := os_52.ext cb53
  refine sx_store (vs := [.bool ((lst ts b a).1), s52, .int .i64 ((lst ts b a).2.2.1)]) rfl rfl fb53 rfl Tryz.sizeOf73 (nbl rfl) (one_cons rfl (one_cons f56.one (o1 rfl))) (fun w55 sw55 fw55 cw55 => ?_)
  have zw55 := cw55.size
  have gw55 : Blk w55 b53 [.bool ((lst ts b a).1), s52, .int .i64 ((lst ts b a).2.2.1)] 73 := fw55
  refine av rfl rfl (wl_nil (q_n (k49 _ _ ?_)))
  refine sx_sub (Sub.c 6 rfl (.c 7 rfl (.c 10 rfl .nil))) ?_
  refine sx_seq fun K57 k57 => ?_
  have f60 := ((f10.ext c13).ext c52).ext cb53
  have f61 := f60.chg cw55 (by omega)
  have f63 := (f50.ext c52).ext cb53
  have f64 := f63.chg cw55 (by omega)
  have f66 := (f51.ext c52).ext cb53
  have f67 := f66.chg cw55 (by omega)
  have f68 := f56.chg cw55 (by omega)
  refine dx_region (fun w' => Chg b4 (b4 + 1) w55 w') (by kernel_rfl) (Chg.zero (Chg.drew _)) ?_
  have d69 := Chg.drew w55
  have s69 : Chg b4 (b4 + 1) w55 (World.drew w55) := Chg.zero (Chg.drew _)
  have y69 : (World.drew w55).heap.size = w55.heap.size := rfl
  generalize World.drew w55 = w69 at *
  have zw69 := d69.size
  refine dt 3 rfl rfl rfl rfl s69 (fun _ hS => px_load rfl ((gw55.chg hS (by omega)).loadA (vs := [.bool ((lst ts b a).1), s52, .int .i64 ((lst ts b a).2.2.1)]) (look_lit rfl) Tryz.isAgg73 Tryz.sizeOf73)) ?_
  refine dx_eff 0 rfl (by kernel_rfl) ?_
  refine sx_call rfl rfl Tryz.call28 (c_iIntOf (by omega)) (fun v70 w70 p70 => ?_)
  obtain ⟨s70, rfl, os_70, c70⟩ := p70
  have zw70 := c70.size
  have s71 : Chg b4 (b4 + 1) w55 w70 := (Chg.zero (l := b4) (h := (b4 + 1)) (d69.t c70))
  refine wl_nil ?_
  refine dx_next s71 ?_
  refine dt 1 rfl rfl rfl rfl s71 (fun _ hS => px_build rfl (xbld73x0x1 rfl _)) ?_
  refine dx_eff 2 rfl (by kernel_rfl) ?_
  refine sx_call rfl rfl Tryz.call76 (c_iDecRat os_70.sv (by first | exact lst_len hz | exact hz _ (by omega) | (have h9 := len_i64 (n := 1) (by omega); omega))) (fun v72 w72 p72 => ?_)
  obtain ⟨s72, t72, ls72, us72, lt72, ut72, rfl, os_72, ot_72, hd72, hl72, c72⟩ := p72
  have zw72 := c72.size
  have s73 : Chg b4 (b4 + 1) w55 w72 := (Chg.zero (l := b4) (h := (b4 + 1)) ((d69.t c70).t c72))
  refine wl_nil ?_
  refine dx_next s73 ?_
  refine dx_eff 4 rfl (by kernel_rfl) ?_
  have f76 := ((f68.ext d69).ext c70).ext c72
  refine sx_call rfl rfl Tryz.call76 (c_iDecRat f76 (by first | exact lst_len hz | exact hz _ (by omega) | (have h9 := len_i64 (n := 1) (by omega); omega))) (fun v77 w77 p77 => ?_)
  obtain ⟨s77, t77, ls77, us77, lt77, ut77, rfl, os_77, ot_77, hd77, hl77, c77⟩ := p77
  have zw77 := c77.size
  have s78 : Chg b4 (b4 + 1) w55 w77 := (Chg.zero (l := b4) (h := (b4 + 1)) (((d69.t c70).t c72).t c77))
  refine wl_nil ?_
  refine dx_next s78 ?_
  refine dx_eff 5 rfl (by kernel_rfl) ?_
  have f79 := os_72.ext c77
  have f80 := ot_72.ext c77
  refine sx_call rfl rfl Tryz.call77 (c_iRatDiv f79.sv f80.sv os_77.sv ot_77.sv (by omega)) (fun v81 w81 p81 => ?_)
  obtain ⟨s81, t81, ls81, us81, lt81, ut81, rfl, os_81, ot_81, hd81, hl81, c81⟩ := p81
  have zw81 := c81.size
  have s82 : Chg b4 (b4 + 1) w55 w81 := (Chg.zero (l := b4) (h := (b4 + 1)) ((((d69.t c70).t c72).t c77).t c81))
  refine wl_nil ?_
  refine dx_next s82 ?_
  refine dt 6 rfl rfl rfl rfl s82 (fun _ hS => px_ex2 rfl rfl) ?_
  refine dt 7 rfl rfl rfl rfl s82 (fun _ hS => px_ex2 rfl rfl) ?_
  refine dx_eff 8 rfl (by kernel_rfl) ?_
  have f86 := ((fb4.ext c13).ext c52).ext cb53
  have f87 := f86.chg cw55 (by omega)
  have f92 := ((((f87.ext d69).ext c70).ext c72).ext c77).ext c81
  refine sx_store (vs := [.bool ((rDiv ((dRat (ng (1 : Int)) (dg ((1 : Int)).natAbs) (0 : Int)).1) ((dRat (ng (1 : Int)) (dg ((1 : Int)).natAbs) (0 : Int)).2.1) ((dRat (ng (1 : Int)) (dg ((1 : Int)).natAbs) (0 : Int)).2.2.1) ((dRat ((lst ts b a).1) ((lst ts b a).2.1) ((lst ts b a).2.2.1)).1) ((dRat ((lst ts b a).1) ((lst ts b a).2.1) ((lst ts b a).2.2.1)).2.1) ((dRat ((lst ts b a).1) ((lst ts b a).2.1) ((lst ts b a).2.2.1)).2.2.1)).1), s81, t81]) rfl rfl f92 rfl Tryz.sizeOf38 (nbl rfl) (one_cons rfl (one_cons os_81.one (one_cons ot_81.one one_nil))) (fun w83 sw83 fw83 cw83 => ?_)
  have zw83 := cw83.size
  have gw83 : Blk w83 b4 [.bool ((rDiv ((dRat (ng (1 : Int)) (dg ((1 : Int)).natAbs) (0 : Int)).1) ((dRat (ng (1 : Int)) (dg ((1 : Int)).natAbs) (0 : Int)).2.1) ((dRat (ng (1 : Int)) (dg ((1 : Int)).natAbs) (0 : Int)).2.2.1) ((dRat ((lst ts b a).1) ((lst ts b a).2.1) ((lst ts b a).2.2.1)).1) ((dRat ((lst ts b a).1) ((lst ts b a).2.1) ((lst ts b a).2.2.1)).2.1) ((dRat ((lst ts b a).1) ((lst ts b a).2.1) ((lst ts b a).2.2.1)).2.2.1)).1), s81, t81] 38 := fw83
  have q94 := Chg.step (l := b4) (h := (b4 + 1)) (Chg.zero (l := b4) (h := (b4 + 1)) ((((d69.t c70).t c72).t c77).t c81)) cw83 (by omega)
  have s93 : Chg b4 (b4 + 1) w55 w83 := q94
  refine wl_nil ?_
  refine dx_next s93 ?_
  refine dt 9 rfl rfl rfl rfl s93 (fun _ hS => px_assign rfl) ?_
  refine dx_done (by kernel_rfl) ?_
  refine q_n (k57 _ _ ?_)
  refine sx_retc ?_
  refine q_br (q_r (sx_ret2 Tryz.results47 ⟨_, rfl, gw83.loadA (vs := [.bool ((rDiv ((dRat (ng (1 : Int)) (dg ((1 : Int)).natAbs) (0 : Int)).1) ((dRat (ng (1 : Int)) (dg ((1 : Int)).natAbs) (0 : Int)).2.1) ((dRat (ng (1 : Int)) (dg ((1 : Int)).natAbs) (0 : Int)).2.2.1) ((dRat ((lst ts b a).1) ((lst ts b a).2.1) ((lst ts b a).2.2.1)).1) ((dRat ((lst ts b a).1) ((lst ts b a).2.1) ((lst ts b a).2.2.1)).2.1) ((dRat ((lst ts b a).1) ((lst ts b a).2.1) ((lst ts b a).2.2.1)).2.2.1)).1), s81, t81]) (look_lit rfl) Tryz.isAgg38 Tryz.sizeOf38⟩ rfl ?_))
  have hrl := rOf_len (pv := pv) (ts := ts) (a := a) (b := b)
  rw [rOf_3 h130] at hrl ⊢
  have q95 := Chg.step (l := 0) (h := 0) (Chg.zero (l := 0) (h := 0) ((((cb2.t cb4).t c13).t c52).t cb53)) cw55 (by omega)
  have q96 := Chg.step (l := 0) (h := 0) q95 ((((d69.t c70).t c72).t c77).t c81) (by omega)
  have q97 := Chg.step (l := 0) (h := 0) q96 cw83 (by omega)
  have f98 := os_81.chg cw83 (by omega)
  have f99 := ot_81.chg cw83 (by omega)
  exact ⟨_, _, _, _, _, _, rfl, f98, f99, by omega, hrl, q97⟩
 refine sx_seq fun K100 k100 => sx_region ?_
 refine sp rfl (px_eq rfl rfl) ?_
 refine av rfl rfl (wl_nil (q_n (k100 _ _ ?_)))
 have h133 : ¬ ((how pv ts a b : Int) = 4) := h4
 refine sx_condPF rfl h133 ?_
 refine sx_skip ?_
 refine q_bn (q_n (k6 _ _ ?_))
 refine sx_seq fun K101 k101 => sx_region ?_
 refine sp rfl (px_build rfl (xbld38x  _)) ?_
 have f103 := fb4.ext c13
 refine sx_store (vs := [.bool false, (.slice none 0 0), (.slice none 0 0)]) rfl rfl f103 rfl Tryz.sizeOf38 (nbl rfl) (o3 rfl rfl rfl) (fun w102 sw102 fw102 cw102 => ?_)
 have zw102 := cw102.size
 have gw102 : Blk w102 b4 [.bool false, (.slice none 0 0), (.slice none 0 0)] 38 := fw102
 refine av rfl rfl (wl_nil (q_n (k101 _ _ ?_)))
 refine sx_retc ?_
 refine sx_ret2 Tryz.results47 ⟨_, rfl, gw102.loadA (vs := [.bool false, (.slice none 0 0), (.slice none 0 0)]) (look_lit rfl) Tryz.isAgg38 Tryz.sizeOf38⟩ rfl ?_
 rw [rOf_0 h125 h127 h130 h4]
 have q104 := Chg.step (l := 0) (h := 0) (Chg.zero (l := 0) (h := 0) ((cb2.t cb4).t c13)) cw102 (by omega)
 exact ⟨_, _, w.heap.size, w.heap.size, w.heap.size, w.heap.size, rfl, Own.nil _ _ _ _ _, Own.nil _ _ _ _ _, by omega, ⟨by simp [noR], by simp [noR]⟩, q104⟩

theorem c_iRateOf {w : World} {pv : ByteArray} {vt : Value} {lvt uvt : Nat} {ts : List Rt} {vvt : List Value} {a : ByteArray} {b : ByteArray} (hG0 : Glob w) (hvt : RtS w lvt uvt vt ts vvt) (h63 : ts.length ≤ 4611686018427387904) (hz : ∀ i, i < ts.length → (ts.getD i rt0).2.2.2.1.length ≤ 4611686018427387904) :
  Ret Tryz.prog 47 [.agg #[.string pv, vt], .string a, .string b] w fun v w' => ∃ s t ls us lt ut, v = .tuple #[.agg #[.bool ((rOf pv ts a b).1), s, t], .bool ((rOf pv ts a b).2.2.2)] ∧ OwnI w' (ls) (us) s intT ((rOf pv ts a b).2.1) ∧ OwnI w' (lt) (ut) t intT ((rOf pv ts a b).2.2.1) ∧ (w.heap.size ≤ ls ∧ us ≤ w'.heap.size ∧ w.heap.size ≤ lt ∧ ut ≤ w'.heap.size ∧ (us ≤ lt ∨ ut ≤ ls)) ∧ ((rOf pv ts a b).2.1.length ≤ 18 ∧ (rOf pv ts a b).2.2.1.length ≤ 18) ∧ Chg 0 0 w w' := by
 have hvt0 := hvt.fit
 refine sx_enter Tryz.func47 rfl Tryz.ntmps47 (nbl rfl) ?_
 refine sx_seq fun K1 k1 => sx_region ?_
 refine sx_box [.string pv, vt] rfl rfl rfl (fun b2 w3 eb2 sb2 fb2 cb2 => ?_)
 have zw3 := cb2.size
 refine sx_alloc [.bool false, (.slice none 0 0), (.slice none 0 0)] rfl Tryz.zeroValue38 rfl (fun b4 w5 eb4 sb4 fb4 cb4 => ?_)
 have zw5 := cb4.size
 refine av rfl rfl (wl_nil (q_n (k1 _ _ ?_)))
 refine sx_seq fun K6 k6 => ?_
 refine sx_seq fun K7 k7 => sx_region ?_
 have f8 := fb2.ext cb4
 refine sp rfl (px_load rfl (f8.loadA (vs := [.string pv, vt]) (look_lit rfl) Tryz.isAgg25 Tryz.sizeOf25)) ?_
 refine mv rfl rfl (mv rfl rfl ?_)
 have f9 := hG0.ext cb2
 have f10 := f9.ext cb4
 have f11 := hvt0.ext cb2
 have f12 := f11.ext cb4
 refine sx_call rfl rfl Tryz.call73 (c_iRateHow f10 f12 (by omega) (by first | assumption | exact fun i hi => Nat.le_trans (hzz i hi) (by omega))) (fun v13 w13 p13 => ?_)
 obtain ⟨rfl, c13⟩ := p13
 have zw13 := c13.size
 refine wl_nil (q_n (k7 _ _ ?_))
 refine sx_block ?_
 refine sx_seq fun K14 k14 => sx_region ?_
 refine sp rfl (px_eq rfl rfl) ?_
 refine av rfl rfl (wl_nil (q_n (k14 _ _ ?_)))
 refine sx_condP rfl (fun h125 => ?_) (fun h125 => ?_)
 ·
  refine sx_seq fun K15 k15 => sx_region ?_
  refine sx_call rfl rfl Tryz.call28 (c_iIntOf (by omega)) (fun v16 w16 p16 => ?_)
  obtain ⟨s16, rfl, os_16, c16⟩ := p16
  have zw16 := c16.size
  refine sx_call rfl rfl Tryz.call74 (c_iRatInt os_16.sv (by have h9 := len_i64 (n := 1) (by omega); omega)) (fun v17 w17 p17 => ?_)
  obtain ⟨s17, t17, ls17, us17, lt17, ut17, rfl, os_17, ot_17, hd17, hl17, c17⟩ := p17
  have zw17 := c17.size
  refine sp rfl (px_ex2 rfl rfl) ?_
  refine sp rfl (px_ex2 rfl rfl) ?_
  have f21 := ((fb4.ext c13).ext c16).ext c17
  refine sx_store (vs := [.bool ((rInt (ng (1 : Int)) (dg ((1 : Int)).natAbs)).1), s17, t17]) rfl rfl f21 rfl Tryz.sizeOf38 (nbl rfl) (one_cons rfl (one_cons os_17.one (one_cons ot_17.one one_nil))) (fun w18 sw18 fw18 cw18 => ?_)
  have zw18 := cw18.size
  have gw18 : Blk w18 b4 [.bool ((rInt (ng (1 : Int)) (dg ((1 : Int)).natAbs)).1), s17, t17] 38 := fw18
  refine av rfl rfl (wl_nil (q_n (k15 _ _ ?_)))
  refine sx_sub (Sub.c 6 rfl (.c 7 rfl .nil)) ?_
  refine sx_retc ?_
  refine q_br (q_r (sx_ret2 Tryz.results47 ⟨_, rfl, gw18.loadA (vs := [.bool ((rInt (ng (1 : Int)) (dg ((1 : Int)).natAbs)).1), s17, t17]) (look_lit rfl) Tryz.isAgg38 Tryz.sizeOf38⟩ rfl ?_))
  have hrl := rOf_len (pv := pv) (ts := ts) (a := a) (b := b)
  rw [rOf_1 h125] at hrl ⊢
  have q22 := Chg.step (l := 0) (h := 0) (Chg.zero (l := 0) (h := 0) ((((cb2.t cb4).t c13).t c16).t c17)) cw18 (by omega)
  have f23 := os_17.chg cw18 (by omega)
  have f24 := ot_17.chg cw18 (by omega)
  exact ⟨_, _, _, _, _, _, rfl, f23, f24, by omega, hrl, q22⟩
 refine sx_seq fun K25 k25 => sx_region ?_
 refine sp rfl (px_eq rfl rfl) ?_
 refine av rfl rfl (wl_nil (q_n (k25 _ _ ?_)))
 refine sx_condP rfl (fun h127 => ?_) (fun h127 => ?_)
 ·
  refine sx_seq fun K26 k26 => sx_region ?_
  have f27 := f8.ext c13
  refine sp rfl (px_load rfl (f27.loadA (vs := [.string pv, vt]) (look_lit rfl) Tryz.isAgg25 Tryz.sizeOf25)) ?_
  refine mv rfl rfl (mv rfl rfl (sp rfl (px_build rfl (xbld118x0x1 rfl rfl _)) ?_))
  have f28 := f12.ext c13
  refine sx_call rfl rfl Tryz.call75 (c_listed f28 (by omega)) (fun v29 w29 p29 => ?_)
  obtain ⟨s29, rfl, os_29, c29⟩ := p29
  have zw29 := c29.size
  refine mv rfl rfl (sp rfl (px_ex2 rfl rfl) ?_)
  refine sp rfl (px_ex2 rfl rfl) ?_
  refine sx_alloc [.bool false, (.slice none 0 0), .int .i64 0] rfl Tryz.zeroValue73 rfl (fun b30 w31 eb30 sb30 fb30 cb30 => ?_)
  have zw31 := cb30.size
  have f33 := os_29.ext cb30
  refine sx_store (vs := [.bool ((lst ts a b).1), s29, .int .i64 ((lst ts a b).2.2.1)]) rfl rfl fb30 rfl Tryz.sizeOf73 (nbl rfl) (one_cons rfl (one_cons f33.one (o1 rfl))) (fun w32 sw32 fw32 cw32 => ?_)
  have zw32 := cw32.size
  have gw32 : Blk w32 b30 [.bool ((lst ts a b).1), s29, .int .i64 ((lst ts a b).2.2.1)] 73 := fw32
  refine av rfl rfl (wl_nil (q_n (k26 _ _ ?_)))
  refine sx_sub (Sub.c 6 rfl (.c 7 rfl (.c 8 rfl .nil))) ?_
  refine sx_seq fun K34 k34 => sx_region ?_
  refine sp rfl (px_load rfl (gw32.loadA (vs := [.bool ((lst ts a b).1), s29, .int .i64 ((lst ts a b).2.2.1)]) (look_lit rfl) Tryz.isAgg73 Tryz.sizeOf73)) ?_
  have f35 := f33.chg cw32 (by omega)
  refine sx_call rfl rfl Tryz.call76 (c_iDecRat f35 (by first | exact lst_len hz | exact hz _ (by omega) | (have h9 := len_i64 (n := 1) (by omega); omega))) (fun v36 w36 p36 => ?_)
  obtain ⟨s36, t36, ls36, us36, lt36, ut36, rfl, os_36, ot_36, hd36, hl36, c36⟩ := p36
  have zw36 := c36.size
  have f40 := ((fb4.ext c13).ext c29).ext cb30
  have f41 := f40.chg cw32 (by omega)
  have f42 := f41.ext c36
  refine sx_store (vs := [.bool ((dRat ((lst ts a b).1) ((lst ts a b).2.1) ((lst ts a b).2.2.1)).1), s36, t36]) rfl rfl f42 rfl Tryz.sizeOf38 (nbl rfl) (one_cons rfl (one_cons os_36.one (one_cons ot_36.one one_nil))) (fun w37 sw37 fw37 cw37 => ?_)
  have zw37 := cw37.size
  have gw37 : Blk w37 b4 [.bool ((dRat ((lst ts a b).1) ((lst ts a b).2.1) ((lst ts a b).2.2.1)).1), s36, t36] 38 := fw37
  refine av rfl rfl (wl_nil (q_n (k34 _ _ ?_)))
  refine sx_retc ?_
  refine q_br (q_r (sx_ret2 Tryz.results47 ⟨_, rfl, gw37.loadA (vs := [.bool ((dRat ((lst ts a b).1) ((lst ts a b).2.1) ((lst ts a b).2.2.1)).1), s36, t36]) (look_lit rfl) Tryz.isAgg38 Tryz.sizeOf38⟩ rfl ?_))
  have hrl := rOf_len (pv := pv) (ts := ts) (a := a) (b := b)
  have hps := (rOf_23 (.inl h127)).2.ok
  rw [← (rOf_23 (.inl h127)).1, rOf_2 h127] at hps
  rw [rOf_2 h127] at hrl ⊢
  have q43 := Chg.step (l := 0) (h := 0) (Chg.zero (l := 0) (h := 0) ((((cb2.t cb4).t c13).t c29).t cb30)) cw32 (by omega)
  have q44 := Chg.step (l := 0) (h := 0) q43 c36 (by omega)
  have q45 := Chg.step (l := 0) (h := 0) q44 cw37 (by omega)
  have f46 := os_36.chg cw37 (by omega)
  have f47 := ot_36.chg cw37 (by omega)
  exact ⟨_, _, _, _, _, _, by rw [hps], f46, f47, by omega, hrl, q45⟩
 refine sx_seq fun K48 k48 => sx_region ?_
 refine sp rfl (px_eq rfl rfl) ?_
 refine av rfl rfl (wl_nil (q_n (k48 _ _ ?_)))
 refine sx_sub (Sub.c 1 rfl (.c 2 rfl (.c 3 rfl (.c 6 rfl (.c 7 rfl (.c 19 rfl (.c 38 rfl .nil))))))) ?_
 refine sx_condP rfl (fun h130 => ?_) (fun h130 => ?_)
 ·
  refine sx_seq fun K49 k49 => sx_region ?_
  have f50 := f8.ext c13
  refine sp rfl (px_load rfl (f50.loadA (vs := [.string pv, vt]) (look_lit rfl) Tryz.isAgg25 Tryz.sizeOf25)) ?_
  refine mv rfl rfl (mv rfl rfl (sp rfl (px_build rfl (xbld118x0x1 rfl rfl _)) ?_))
  have f51 := f12.ext c13
  refine sx_call rfl rfl Tryz.call75 (c_listed f51 (by omega)) (fun v52 w52 p52 => ?_)
  obtain ⟨s52, rfl, os_52, c52⟩ := p52
  have zw52 := c52.size
  refine mv rfl rfl (sp rfl (px_ex2 rfl rfl) ?_)
  refine sp rfl (px_ex2 rfl rfl) ?_
  refine sx_alloc [.bool false, (.slice none 0 0), .int .i64 0] rfl Tryz.zeroValue73 rfl (fun b53 w54 eb53 sb53 fb53 cb53 => ?_)
  have zw54 := cb53.size
  have f56 := os_52.ext cb53
  refine sx_store (vs := [.bool ((lst ts b a).1), s52, .int .i64 ((lst ts b a).2.2.1)]) rfl rfl fb53 rfl Tryz.sizeOf73 (nbl rfl) (one_cons rfl (one_cons f56.one (o1 rfl))) (fun w55 sw55 fw55 cw55 => ?_)
  have zw55 := cw55.size
  have gw55 : Blk w55 b53 [.bool ((lst ts b a).1), s52, .int .i64 ((lst ts b a).2.2.1)] 73 := fw55
  refine av rfl rfl (wl_nil (q_n (k49 _ _ ?_)))
  refine sx_sub (Sub.c 6 rfl (.c 7 rfl (.c 10 rfl .nil))) ?_
  refine sx_seq fun K57 k57 => ?_
  have f60 := ((f10.ext c13).ext c52).ext cb53
  have f61 := f60.chg cw55 (by omega)
  have f63 := (f50.ext c52).ext cb53
  have f64 := f63.chg cw55 (by omega)
  have f66 := (f51.ext c52).ext cb53
  have f67 := f66.chg cw55 (by omega)
  have f68 := f56.chg cw55 (by omega)
  refine dx_region (fun w' => Chg b4 (b4 + 1) w55 w') (by kernel_rfl) (Chg.zero (Chg.drew _)) ?_
  have d69 := Chg.drew w55
  have s69 : Chg b4 (b4 + 1) w55 (World.drew w55) := Chg.zero (Chg.drew _)
  have y69 : (World.drew w55).heap.size = w55.heap.size := rfl
  generalize World.drew w55 = w69 at *
  have zw69 := d69.size
  refine dt 3 rfl rfl rfl rfl s69 (fun _ hS => px_load rfl ((gw55.chg hS (by omega)).loadA (vs := [.bool ((lst ts b a).1), s52, .int .i64 ((lst ts b a).2.2.1)]) (look_lit rfl) Tryz.isAgg73 Tryz.sizeOf73)) ?_
  refine dx_eff 0 rfl (by kernel_rfl) ?_
  refine sx_call rfl rfl Tryz.call28 (c_iIntOf (by omega)) (fun v70 w70 p70 => ?_)
  obtain ⟨s70, rfl, os_70, c70⟩ := p70
  have zw70 := c70.size
  have s71 : Chg b4 (b4 + 1) w55 w70 := (Chg.zero (l := b4) (h := (b4 + 1)) (d69.t c70))
  refine wl_nil ?_
  refine dx_next s71 ?_
  refine dt 1 rfl rfl rfl rfl s71 (fun _ hS => px_build rfl (xbld73x0x1 rfl _)) ?_
  refine dx_eff 2 rfl (by kernel_rfl) ?_
  refine sx_call rfl rfl Tryz.call76 (c_iDecRat os_70.sv (by first | exact lst_len hz | exact hz _ (by omega) | (have h9 := len_i64 (n := 1) (by omega); omega))) (fun v72 w72 p72 => ?_)
  obtain ⟨s72, t72, ls72, us72, lt72, ut72, rfl, os_72, ot_72, hd72, hl72, c72⟩ := p72
  have zw72 := c72.size
  have s73 : Chg b4 (b4 + 1) w55 w72 := (Chg.zero (l := b4) (h := (b4 + 1)) ((d69.t c70).t c72))
  refine wl_nil ?_
  refine dx_next s73 ?_
  refine dx_eff 4 rfl (by kernel_rfl) ?_
  have f76 := ((f68.ext d69).ext c70).ext c72
  refine sx_call rfl rfl Tryz.call76 (c_iDecRat f76 (by first | exact lst_len hz | exact hz _ (by omega) | (have h9 := len_i64 (n := 1) (by omega); omega))) (fun v77 w77 p77 => ?_)
  obtain ⟨s77, t77, ls77, us77, lt77, ut77, rfl, os_77, ot_77, hd77, hl77, c77⟩ := p77
  have zw77 := c77.size
  have s78 : Chg b4 (b4 + 1) w55 w77 := (Chg.zero (l := b4) (h := (b4 + 1)) (((d69.t c70).t c72).t c77))
  refine wl_nil ?_
  refine dx_next s78 ?_
  refine dx_eff 5 rfl (by kernel_rfl) ?_
  have f79 := os_72.ext c77
  have f80 := ot_72.ext c77
  refine sx_call rfl rfl Tryz.call77 (c_iRatDiv f79.sv f80.sv os_77.sv ot_77.sv (by omega)) (fun v81 w81 p81 => ?_)
  obtain ⟨s81, t81, ls81, us81, lt81, ut81, rfl, os_81, ot_81, hd81, hl81, c81⟩ := p81
  have zw81 := c81.size
  have s82 : Chg b4 (b4 + 1) w55 w81 := (Chg.zero (l := b4) (h := (b4 + 1)) ((((d69.t c70).t c72).t c77).t c81))
  refine wl_nil ?_
  refine dx_next s82 ?_
  refine dt 6 rfl rfl rfl rfl s82 (fun _ hS => px_ex2 rfl rfl) ?_
  refine dt 7 rfl rfl rfl rfl s82 (fun _ hS => px_ex2 rfl rfl) ?_
  refine dx_eff 8 rfl (by kernel_rfl) ?_
  have f86 := ((fb4.ext c13).ext c52).ext cb53
  have f87 := f86.chg cw55 (by omega)
  have f92 := ((((f87.ext d69).ext c70).ext c72).ext c77).ext c81
  refine sx_store (vs := [.bool ((rDiv ((dRat (ng (1 : Int)) (dg ((1 : Int)).natAbs) (0 : Int)).1) ((dRat (ng (1 : Int)) (dg ((1 : Int)).natAbs) (0 : Int)).2.1) ((dRat (ng (1 : Int)) (dg ((1 : Int)).natAbs) (0 : Int)).2.2.1) ((dRat ((lst ts b a).1) ((lst ts b a).2.1) ((lst ts b a).2.2.1)).1) ((dRat ((lst ts b a).1) ((lst ts b a).2.1) ((lst ts b a).2.2.1)).2.1) ((dRat ((lst ts b a).1) ((lst ts b a).2.1) ((lst ts b a).2.2.1)).2.2.1)).1), s81, t81]) rfl rfl f92 rfl Tryz.sizeOf38 (nbl rfl) (one_cons rfl (one_cons os_81.one (one_cons ot_81.one one_nil))) (fun w83 sw83 fw83 cw83 => ?_)
  have zw83 := cw83.size
  have gw83 : Blk w83 b4 [.bool ((rDiv ((dRat (ng (1 : Int)) (dg ((1 : Int)).natAbs) (0 : Int)).1) ((dRat (ng (1 : Int)) (dg ((1 : Int)).natAbs) (0 : Int)).2.1) ((dRat (ng (1 : Int)) (dg ((1 : Int)).natAbs) (0 : Int)).2.2.1) ((dRat ((lst ts b a).1) ((lst ts b a).2.1) ((lst ts b a).2.2.1)).1) ((dRat ((lst ts b a).1) ((lst ts b a).2.1) ((lst ts b a).2.2.1)).2.1) ((dRat ((lst ts b a).1) ((lst ts b a).2.1) ((lst ts b a).2.2.1)).2.2.1)).1), s81, t81] 38 := fw83
  have q94 := Chg.step (l := b4) (h := (b4 + 1)) (Chg.zero (l := b4) (h := (b4 + 1)) ((((d69.t c70).t c72).t c77).t c81)) cw83 (by omega)
  have s93 : Chg b4 (b4 + 1) w55 w83 := q94
  refine wl_nil ?_
  refine dx_next s93 ?_
  refine dt 9 rfl rfl rfl rfl s93 (fun _ hS => px_assign rfl) ?_
  refine dx_done (by kernel_rfl) ?_
  refine q_n (k57 _ _ ?_)
  refine sx_retc ?_
  refine q_br (q_r (sx_ret2 Tryz.results47 ⟨_, rfl, gw83.loadA (vs := [.bool ((rDiv ((dRat (ng (1 : Int)) (dg ((1 : Int)).natAbs) (0 : Int)).1) ((dRat (ng (1 : Int)) (dg ((1 : Int)).natAbs) (0 : Int)).2.1) ((dRat (ng (1 : Int)) (dg ((1 : Int)).natAbs) (0 : Int)).2.2.1) ((dRat ((lst ts b a).1) ((lst ts b a).2.1) ((lst ts b a).2.2.1)).1) ((dRat ((lst ts b a).1) ((lst ts b a).2.1) ((lst ts b a).2.2.1)).2.1) ((dRat ((lst ts b a).1) ((lst ts b a).2.1) ((lst ts b a).2.2.1)).2.2.1)).1), s81, t81]) (look_lit rfl) Tryz.isAgg38 Tryz.sizeOf38⟩ rfl ?_))
  have hrl := rOf_len (pv := pv) (ts := ts) (a := a) (b := b)
  rw [rOf_3 h130] at hrl ⊢
  have q95 := Chg.step (l := 0) (h := 0) (Chg.zero (l := 0) (h := 0) ((((cb2.t cb4).t c13).t c52).t cb53)) cw55 (by omega)
  have q96 := Chg.step (l := 0) (h := 0) q95 ((((d69.t c70).t c72).t c77).t c81) (by omega)
  have q97 := Chg.step (l := 0) (h := 0) q96 cw83 (by omega)
  have f98 := os_81.chg cw83 (by omega)
  have f99 := ot_81.chg cw83 (by omega)
  exact ⟨_, _, _, _, _, _, rfl, f98, f99, by omega, hrl, q97⟩
 refine sx_seq fun K100 k100 => sx_region ?_
 refine sp rfl (px_eq rfl rfl) ?_
 refine av rfl rfl (wl_nil (q_n (k100 _ _ ?_)))
 refine sx_condP rfl (fun h133 => ?_) (fun h133 => ?_)
 ·
  refine sx_seq fun K101 k101 => sx_region ?_
  have f102 := f8.ext c13
  refine sp rfl (px_load rfl (f102.loadA (vs := [.string pv, vt]) (look_lit rfl) Tryz.isAgg25 Tryz.sizeOf25)) ?_
  refine mv rfl rfl (sp rfl (px_field rfl xfld25x0) ?_)
  refine sp rfl (px_load rfl (f102.load1 rfl Tryz.isAgg9)) ?_
  have f103 := f10.ext c13
  have f104 := f12.ext c13
  refine sx_call rfl rfl Tryz.call47 (c_iRateOfNp f103 f104 (by omega) (by first | assumption | exact fun i hi => Nat.le_trans (hzz i hi) (by omega)) ((rOf_4 h133).2.2.2.2.1)) (fun v105 w105 p105 => ?_)
  obtain ⟨s105, t105, ls105, us105, lt105, ut105, rfl, os_105, ot_105, hd105, hl105, c105⟩ := p105
  have zw105 := c105.size
  refine mv rfl rfl (sp rfl (px_ex2 rfl rfl) ?_)
  refine sp rfl (px_ex2 rfl rfl) ?_
  refine sx_alloc [.bool false, (.slice none 0 0), (.slice none 0 0)] rfl Tryz.zeroValue38 rfl (fun b106 w107 eb106 sb106 fb106 cb106 => ?_)
  have zw107 := cb106.size
  have f109 := ot_105.ext cb106
  have f110 := os_105.ext cb106
  refine sx_store (vs := [.bool ((rOf pv ts a pv).1), s105, t105]) rfl rfl fb106 rfl Tryz.sizeOf38 (nbl rfl) (one_cons rfl (one_cons f110.one (one_cons f109.one one_nil))) (fun w108 sw108 fw108 cw108 => ?_)
  have zw108 := cw108.size
  have gw108 : Blk w108 b106 [.bool ((rOf pv ts a pv).1), s105, t105] 38 := fw108
  refine av rfl rfl (wl_nil (q_n (k101 _ _ ?_)))
  refine sx_sub (Sub.c 2 rfl (.c 3 rfl (.c 6 rfl (.c 7 rfl (.c 12 rfl (.c 13 rfl .nil)))))) ?_
  refine sx_seq fun K111 k111 => sx_region ?_
  have f113 := (f102.ext c105).ext cb106
  have f114 := f113.chg cw108 (by omega)
  refine sp rfl (px_load rfl (f114.loadA (vs := [.string pv, vt]) (look_lit rfl) Tryz.isAgg25 Tryz.sizeOf25)) ?_
  refine sp rfl (px_field rfl xfld25x0) ?_
  refine sp rfl (px_load rfl (f114.load1 rfl Tryz.isAgg9)) ?_
  refine mv rfl rfl ?_
  have f116 := (f103.ext c105).ext cb106
  have f117 := f116.chg cw108 (by omega)
  have f119 := (f104.ext c105).ext cb106
  have f120 := f119.chg cw108 (by omega)
  refine sx_call rfl rfl Tryz.call47 (c_iRateOfNp f117 f120 (by omega) (by first | assumption | exact fun i hi => Nat.le_trans (hzz i hi) (by omega)) ((rOf_4 h133).2.2.2.2.2.1)) (fun v121 w121 p121 => ?_)
  obtain ⟨s121, t121, ls121, us121, lt121, ut121, rfl, os_121, ot_121, hd121, hl121, c121⟩ := p121
  have zw121 := c121.size
  refine mv rfl rfl (sp rfl (px_ex2 rfl rfl) ?_)
  refine sp rfl (px_ex2 rfl rfl) ?_
  refine sx_alloc [.bool false, (.slice none 0 0), (.slice none 0 0)] rfl Tryz.zeroValue38 rfl (fun b122 w123 eb122 sb122 fb122 cb122 => ?_)
  have zw123 := cb122.size
  have f125 := ot_121.ext cb122
  have f126 := os_121.ext cb122
  refine sx_store (vs := [.bool ((rOf pv ts pv b).1), s121, t121]) rfl rfl fb122 rfl Tryz.sizeOf38 (nbl rfl) (one_cons rfl (one_cons f126.one (one_cons f125.one one_nil))) (fun w124 sw124 fw124 cw124 => ?_)
  have zw124 := cw124.size
  have gw124 : Blk w124 b122 [.bool ((rOf pv ts pv b).1), s121, t121] 38 := fw124
  refine av rfl rfl (wl_nil (q_n (k111 _ _ ?_)))
  refine sx_sub (Sub.c 6 rfl (.c 7 rfl (.c 12 rfl (.c 13 rfl (.c 14 rfl (.c 15 rfl .nil)))))) ?_
  refine sx_seq fun K127 k127 => sx_region ?_
  refine mv rfl rfl (mv rfl rfl ?_)
  have h136 : ((rOf pv ts a pv).2.2.2) = true := by rw [(rOf_4 h133).1]; exact (rOf_4 h133).2.1.ok
  refine sx_tmpBT (t := 75) rfl h136 ?_
  refine sx_guardT rfl rfl rfl ?_
  refine mv rfl rfl (sp rfl (px_pick rfl rfl) ?_)
  refine wl_nil (q_n (k127 _ _ ?_))
  have h136x1 : ((rOf pv ts pv b).2.2.2) = true := by rw [(rOf_4 h133).2.2.1]; exact (rOf_4 h133).2.2.2.1.ok
  refine sx_condBT rfl h136x1 ?_
  refine sx_seq fun K128 k128 => sx_region ?_
  have f130 := (gw108.ext c121).ext cb122
  have f131 := f130.chg cw124 (by omega)
  refine sp rfl (px_load rfl (f131.loadA (vs := [.bool ((rOf pv ts a pv).1), s105, t105]) (look_lit rfl) Tryz.isAgg38 Tryz.sizeOf38)) ?_
  refine sp rfl (px_load rfl (gw124.loadA (vs := [.bool ((rOf pv ts pv b).1), s121, t121]) (look_lit rfl) Tryz.isAgg38 Tryz.sizeOf38)) ?_
  have f132 := f110.chg cw108 (by omega)
  have f134 := (f132.ext c121).ext cb122
  have f135 := f134.chg cw124 (by omega)
  have f136 := f109.chg cw108 (by omega)
  have f138 := (f136.ext c121).ext cb122
  have f139 := f138.chg cw124 (by omega)
  have f140 := f126.chg cw124 (by omega)
  have f141 := f125.chg cw124 (by omega)
  refine sx_call rfl rfl Tryz.call27 (c_iRatMul f135.sv f139.sv f140.sv f141.sv (by omega)) (fun v142 w142 p142 => ?_)
  obtain ⟨s142, t142, ls142, us142, lt142, ut142, rfl, os_142, ot_142, hd142, hl142, c142⟩ := p142
  have zw142 := c142.size
  refine sp rfl (px_ex2 rfl rfl) ?_
  refine sp rfl (px_ex2 rfl rfl) ?_
  have f146 := ((fb4.ext c13).ext c105).ext cb106
  have f147 := f146.chg cw108 (by omega)
  have f149 := (f147.ext c121).ext cb122
  have f150 := f149.chg cw124 (by omega)
  have f151 := f150.ext c142
  refine sx_store (vs := [.bool ((rMul ((rOf pv ts a pv).1) ((rOf pv ts a pv).2.1) ((rOf pv ts a pv).2.2.1) ((rOf pv ts pv b).1) ((rOf pv ts pv b).2.1) ((rOf pv ts pv b).2.2.1)).1), s142, t142]) rfl rfl f151 rfl Tryz.sizeOf38 (nbl rfl) (one_cons rfl (one_cons os_142.one (one_cons ot_142.one one_nil))) (fun w143 sw143 fw143 cw143 => ?_)
  have zw143 := cw143.size
  have gw143 : Blk w143 b4 [.bool ((rMul ((rOf pv ts a pv).1) ((rOf pv ts a pv).2.1) ((rOf pv ts a pv).2.2.1) ((rOf pv ts pv b).1) ((rOf pv ts pv b).2.1) ((rOf pv ts pv b).2.2.1)).1), s142, t142] 38 := fw143
  refine av rfl rfl (wl_nil (q_n (k128 _ _ ?_)))
  refine sx_sub (Sub.c 6 rfl (.c 7 rfl .nil)) ?_
  refine sx_retc ?_
  refine q_br (q_r (sx_ret2 Tryz.results47 ⟨_, rfl, gw143.loadA (vs := [.bool ((rMul ((rOf pv ts a pv).1) ((rOf pv ts a pv).2.1) ((rOf pv ts a pv).2.2.1) ((rOf pv ts pv b).1) ((rOf pv ts pv b).2.1) ((rOf pv ts pv b).2.2.1)).1), s142, t142]) (look_lit rfl) Tryz.isAgg38 Tryz.sizeOf38⟩ rfl ?_))
  have hrl := rOf_len (pv := pv) (ts := ts) (a := a) (b := b)
  have h4f := rOf_4 h133
  have hre : rOf pv ts a b = rMul (rOf pv ts a pv).1 (rOf pv ts a pv).2.1 (rOf pv ts a pv).2.2.1 (rOf pv ts pv b).1 (rOf pv ts pv b).2.1 (rOf pv ts pv b).2.2.1 := by rw [h4f.1, h4f.2.2.1]; exact h4f.2.2.2.2.2.2
  rw [hre] at hrl ⊢
  have q152 := Chg.step (l := 0) (h := 0) (Chg.zero (l := 0) (h := 0) ((((cb2.t cb4).t c13).t c105).t cb106)) cw108 (by omega)
  have q153 := Chg.step (l := 0) (h := 0) q152 (c121.t cb122) (by omega)
  have q154 := Chg.step (l := 0) (h := 0) q153 cw124 (by omega)
  have q155 := Chg.step (l := 0) (h := 0) q154 c142 (by omega)
  have q156 := Chg.step (l := 0) (h := 0) q155 cw143 (by omega)
  have f157 := os_142.chg cw143 (by omega)
  have f158 := ot_142.chg cw143 (by omega)
  exact ⟨_, _, _, _, _, _, rfl, f157, f158, by omega, hrl, q156⟩
 refine sx_skip ?_
 refine q_bn (q_n (k6 _ _ ?_))
 refine sx_seq fun K159 k159 => sx_region ?_
 refine sp rfl (px_build rfl (xbld38x  _)) ?_
 have f161 := fb4.ext c13
 refine sx_store (vs := [.bool false, (.slice none 0 0), (.slice none 0 0)]) rfl rfl f161 rfl Tryz.sizeOf38 (nbl rfl) (o3 rfl rfl rfl) (fun w160 sw160 fw160 cw160 => ?_)
 have zw160 := cw160.size
 have gw160 : Blk w160 b4 [.bool false, (.slice none 0 0), (.slice none 0 0)] 38 := fw160
 refine av rfl rfl (wl_nil (q_n (k159 _ _ ?_)))
 refine sx_retc ?_
 refine sx_ret2 Tryz.results47 ⟨_, rfl, gw160.loadA (vs := [.bool false, (.slice none 0 0), (.slice none 0 0)]) (look_lit rfl) Tryz.isAgg38 Tryz.sizeOf38⟩ rfl ?_
 rw [rOf_0 h125 h127 h130 h133]
 have q162 := Chg.step (l := 0) (h := 0) (Chg.zero (l := 0) (h := 0) ((cb2.t cb4).t c13)) cw160 (by omega)
 exact ⟨_, _, w.heap.size, w.heap.size, w.heap.size, w.heap.size, rfl, Own.nil _ _ _ _ _, Own.nil _ _ _ _ _, by omega, ⟨by simp [noR], by simp [noR]⟩, q162⟩

theorem c_iCurPlaces {w : World} {s : ByteArray} (hG0 : Glob w) :
  Ret Tryz.prog 49 [.string s] w fun v w' => v = .int .i64 ((curOf s).places) ∧ Chg 0 0 w w' := by
 refine sx_enter Tryz.func49 rfl Tryz.ntmps49 (nbl rfl) ?_
 refine sx_seq fun K1 k1 => sx_region ?_
 refine av rfl rfl (wl_nil (q_n (k1 _ _ ?_)))
 refine sx_seq fun K2 k2 => sx_region ?_
 refine mv rfl rfl (sx_call rfl rfl Tryz.call71 (c_currencyOf hG0) (fun v3 w3 p3 => ?_))
 obtain ⟨rfl, c3⟩ := p3
 have zw3 := c3.size
 refine mv rfl rfl (sp rfl (px_ex2 rfl rfl) ?_)
 refine sp rfl (px_ex2 rfl rfl) ?_
 refine sx_alloc [.string (⟨#[]⟩), .string (⟨#[]⟩), .int .i64 0, .int .i64 0] rfl Tryz.zeroValue111 rfl (fun b4 w5 eb4 sb4 fb4 cb4 => ?_)
 have zw5 := cb4.size
 refine sx_store (vs := [.string ((curOf s).code), .string ((curOf s).number), .int .i64 ((curOf s).places), .int .i64 ((curOf s).cash)]) rfl rfl fb4 rfl Tryz.sizeOf111 (nbl rfl) (one_cons rfl (o3 rfl rfl rfl)) (fun w6 sw6 fw6 cw6 => ?_)
 have zw6 := cw6.size
 have gw6 : Blk w6 b4 [.string ((curOf s).code), .string ((curOf s).number), .int .i64 ((curOf s).places), .int .i64 ((curOf s).cash)] 111 := fw6
 refine av rfl rfl (wl_nil (q_n (k2 _ _ ?_)))
 refine sx_seq fun K7 k7 => sx_region ?_
 refine sp rfl (px_field rfl xfld111x2) ?_
 refine sp rfl (px_load rfl (gw6.load1 rfl Tryz.isAgg3)) ?_
 refine av rfl rfl (wl_nil (q_n (k7 _ _ ?_)))
 refine sx_retc ?_
 refine sx_ret1 Tryz.results49 rfl ?_
 have q8 := Chg.step (l := 0) (h := 0) (Chg.zero (l := 0) (h := 0) (c3.t cb4)) cw6 (by omega)
 exact ⟨rfl, q8⟩

theorem c_iUnitRate {w : World} {pv : ByteArray} {vt : Value} {lvt uvt : Nat} {ts : List Rt} {vvt : List Value} {a : ByteArray} {b : ByteArray} (hG0 : Glob w) (hvt : RtS w lvt uvt vt ts vvt) (h63 : ts.length ≤ 4611686018427387904) (hz : ∀ i, i < ts.length → (ts.getD i rt0).2.2.2.1.length ≤ 4611686018427387904) :
  Ret Tryz.prog 19 [.agg #[.string pv, vt], .string a, .string b] w fun v w' => ∃ s t ls us lt ut, v = .tuple #[.agg #[.bool ((uRt pv ts a b).1), s, t], .bool ((uRt pv ts a b).2.2.2)] ∧ OwnI w' (ls) (us) s intT ((uRt pv ts a b).2.1) ∧ OwnI w' (lt) (ut) t intT ((uRt pv ts a b).2.2.1) ∧ (w.heap.size ≤ ls ∧ us ≤ w'.heap.size ∧ w.heap.size ≤ lt ∧ ut ≤ w'.heap.size ∧ (us ≤ lt ∨ ut ≤ ls)) ∧ ((uRt pv ts a b).2.1.length ≤ 18 ∧ (uRt pv ts a b).2.2.1.length ≤ 18) ∧ Chg 0 0 w w' := by
 have hvt0 := hvt.fit
 have hpa := cur_places a
 have hpb := cur_places b
 have hta := ten_len' (k := (curOf a).places) (by omega)
 have htb := ten_len' (k := (curOf b).places) (by omega)
 refine sx_enter Tryz.func19 rfl Tryz.ntmps19 (nbl rfl) ?_
 refine sx_seq fun K1 k1 => sx_region ?_
 refine sx_box [.string pv, vt] rfl rfl rfl (fun b2 w3 eb2 sb2 fb2 cb2 => ?_)
 have zw3 := cb2.size
 refine sx_alloc [.bool false, (.slice none 0 0), (.slice none 0 0)] rfl Tryz.zeroValue38 rfl (fun b4 w5 eb4 sb4 fb4 cb4 => ?_)
 have zw5 := cb4.size
 refine av rfl rfl (wl_nil (q_n (k1 _ _ ?_)))
 refine sx_seq fun K6 k6 => sx_region ?_
 have f7 := fb2.ext cb4
 refine sp rfl (px_load rfl (f7.loadA (vs := [.string pv, vt]) (look_lit rfl) Tryz.isAgg25 Tryz.sizeOf25)) ?_
 refine mv rfl rfl (mv rfl rfl ?_)
 have f8 := hG0.ext cb2
 have f9 := f8.ext cb4
 have f10 := hvt0.ext cb2
 have f11 := f10.ext cb4
 refine sx_call rfl rfl Tryz.call47 (c_iRateOf f9 f11 (by omega) (by first | assumption | exact fun i hi => Nat.le_trans (hzz i hi) (by omega))) (fun v12 w12 p12 => ?_)
 obtain ⟨s12, t12, ls12, us12, lt12, ut12, rfl, os_12, ot_12, hd12, hl12, c12⟩ := p12
 have zw12 := c12.size
 refine mv rfl rfl (sp rfl (px_ex2 rfl rfl) ?_)
 refine sp rfl (px_ex2 rfl rfl) ?_
 refine sx_alloc [.bool false, (.slice none 0 0), (.slice none 0 0)] rfl Tryz.zeroValue38 rfl (fun b13 w14 eb13 sb13 fb13 cb13 => ?_)
 have zw14 := cb13.size
 have f16 := ot_12.ext cb13
 have f17 := os_12.ext cb13
 refine sx_store (vs := [.bool ((rOf pv ts a b).1), s12, t12]) rfl rfl fb13 rfl Tryz.sizeOf38 (nbl rfl) (one_cons rfl (one_cons f17.one (one_cons f16.one one_nil))) (fun w15 sw15 fw15 cw15 => ?_)
 have zw15 := cw15.size
 have gw15 : Blk w15 b13 [.bool ((rOf pv ts a b).1), s12, t12] 38 := fw15
 refine av rfl rfl (wl_nil (q_n (k6 _ _ ?_)))
 refine sx_sub (Sub.c 1 rfl (.c 2 rfl (.c 6 rfl (.c 7 rfl (.c 8 rfl (.c 9 rfl .nil)))))) ?_
 refine sx_seq fun K18 k18 => ?_
 refine sx_seq fun K19 k19 => sx_region ?_
 refine mv rfl rfl (sp rfl (px_not rfl) ?_)
 refine wl_nil (q_n (k19 _ _ ?_))
 refine sx_condB rfl (fun h31 => ?_) (fun h31 => ?_)
 ·
  refine sx_seq fun K20 k20 => sx_region ?_
  refine sp rfl (px_build rfl (xbld38x  _)) ?_
  have f23 := (fb4.ext c12).ext cb13
  have f24 := f23.chg cw15 (by omega)
  refine sx_store (vs := [.bool false, (.slice none 0 0), (.slice none 0 0)]) rfl rfl f24 rfl Tryz.sizeOf38 (nbl rfl) (o3 rfl rfl rfl) (fun w21 sw21 fw21 cw21 => ?_)
  have zw21 := cw21.size
  have gw21 : Blk w21 b4 [.bool false, (.slice none 0 0), (.slice none 0 0)] 38 := fw21
  refine av rfl rfl (wl_nil (q_n (k20 _ _ ?_)))
  refine sx_retc ?_
  refine q_r (sx_ret2 Tryz.results19 ⟨_, rfl, gw21.loadA (vs := [.bool false, (.slice none 0 0), (.slice none 0 0)]) (look_lit rfl) Tryz.isAgg38 Tryz.sizeOf38⟩ rfl ?_)
  rw [uRt_no (bnot_t h31)]
  have q25 := Chg.step (l := 0) (h := 0) (Chg.zero (l := 0) (h := 0) (((cb2.t cb4).t c12).t cb13)) cw15 (by omega)
  have q26 := Chg.step (l := 0) (h := 0) q25 cw21 (by omega)
  exact ⟨_, _, w.heap.size, w.heap.size, w.heap.size, w.heap.size, rfl, Own.nil _ _ _ _ _, Own.nil _ _ _ _ _, by omega, ⟨by simp [noR], by simp [noR]⟩, q26⟩
 have hok := bnot_f h31
 obtain ⟨x1, e1, hr1, hr2, hr3, he1, hx1, hy1, hg1⟩ := (rOf_ROk hok).rat
 have lm1 := len_mul x1.natAbs (10 ^ (curOf b).places.toNat)
 have lm2 := len_mul e1 (10 ^ (curOf a).places.toNat)
 have f27 := f17.chg cw15 (by omega)
 have f28 := f27
 rw [hr2] at f28
 have f29 := f16.chg cw15 (by omega)
 have f30 := f29
 rw [hr3] at f30
 have f31 := gw15
 rw [hr1] at f31
 refine sx_skip ?_
 refine q_n (k18 _ _ ?_)
 refine sx_seq fun K32 k32 => ?_
 have f34 := (f9.ext c12).ext cb13
 have f35 := f34.chg cw15 (by omega)
 have f37 := (f7.ext c12).ext cb13
 have f38 := f37.chg cw15 (by omega)
 have f40 := (fb4.ext c12).ext cb13
 have f41 := f40.chg cw15 (by omega)
 have f43 := (f11.ext c12).ext cb13
 have f44 := f43.chg cw15 (by omega)
 refine dx_region (fun w' => Chg 0 0 w15 w') (by kernel_rfl) (Chg.zero (Chg.drew _)) ?_
 have d45 := Chg.drew w15
 have s45 : Chg 0 0 w15 (World.drew w15) := Chg.zero (Chg.drew _)
 have y45 : (World.drew w15).heap.size = w15.heap.size := rfl
 generalize World.drew w15 = w45 at *
 have zw45 := d45.size
 refine dt 0 rfl rfl rfl rfl s45 (fun _ hS => px_field rfl xfld38x0) ?_
 refine dt 1 rfl rfl rfl rfl s45 (fun _ hS => px_field rfl xfld30x1) ?_
 refine dt 2 rfl rfl rfl rfl s45 (fun _ hS => px_load rfl ((f31.chg hS (by omega)).load1 rfl Tryz.isAgg28)) ?_
 refine dt 3 rfl rfl rfl rfl s45 (fun _ hS => px_move rfl) ?_
 refine dx_eff 4 rfl (by kernel_rfl) ?_
 have f46 := f35.ext d45
 refine sx_call rfl rfl Tryz.call49 (c_iCurPlaces f46) (fun v47 w47 p47 => ?_)
 obtain ⟨rfl, c47⟩ := p47
 have zw47 := c47.size
 have s48 : Chg 0 0 w15 w47 := (d45.t c47)
 refine wl_nil ?_
 refine dx_next s48 ?_
 refine dx_eff 5 rfl (by kernel_rfl) ?_
 refine sx_call rfl rfl Tryz.call48 (c_natTen (by omega)) (fun v49 w49 p49 => ?_)
 obtain ⟨s49, rfl, os_49, c49⟩ := p49
 have zw49 := c49.size
 have s50 : Chg 0 0 w15 w49 := ((d45.t c47).t c49)
 refine wl_nil ?_
 refine dx_next s50 ?_
 refine dx_eff 6 rfl (by kernel_rfl) ?_
 have f53 := ((f28.ext d45).ext c47).ext c49
 refine sx_call rfl rfl Tryz.call21 (c_natMul f53.sv os_49.sv (by omega) (by omega)) (fun v54 w54 p54 => ?_)
 obtain ⟨s54, rfl, os_54, c54⟩ := p54
 have zw54 := c54.size
 have s55 : Chg 0 0 w15 w54 := (((d45.t c47).t c49).t c54)
 refine wl_nil ?_
 refine dx_next s55 ?_
 refine dt 7 rfl rfl rfl rfl s55 (fun _ hS => px_assign rfl) ?_
 refine dx_done (by kernel_rfl) ?_
 refine q_n (k32 _ _ ?_)
 refine sx_sub (Sub.c 1 rfl (.c 6 rfl (.c 7 rfl (.c 8 rfl (.c 10 rfl .nil))))) ?_
 refine sx_seq fun K56 k56 => ?_
 have f63 := (((f38.ext d45).ext c47).ext c49).ext c54
 have f67 := (((f31.ext d45).ext c47).ext c49).ext c54
 have f71 := (((f44.ext d45).ext c47).ext c49).ext c54
 have f72 := f53.ext c54
 have f77 := os_49.ext c54
 refine dx_region (fun w' => Chg b4 (b4 + 1) w54 w') (by kernel_rfl) (Chg.zero (Chg.drew _)) ?_
 have d78 := Chg.drew w54
 have s78 : Chg b4 (b4 + 1) w54 (World.drew w54) := Chg.zero (Chg.drew _)
 have y78 : (World.drew w54).heap.size = w54.heap.size := rfl
 generalize World.drew w54 = w78 at *
 have zw78 := d78.size
 refine dt 0 rfl rfl rfl rfl s78 (fun _ hS => px_field rfl xfld38x0) ?_
 refine dt 1 rfl rfl rfl rfl s78 (fun _ hS => px_field rfl xfld30x0) ?_
 refine dt 2 rfl rfl rfl rfl s78 (fun _ hS => px_load rfl ((f67.chg hS (by omega)).load1 rfl Tryz.isAgg4)) ?_
 refine dt 3 rfl rfl rfl rfl s78 (fun _ hS => px_move rfl) ?_
 refine dt 5 rfl rfl rfl rfl s78 (fun _ hS => px_field rfl xfld38x1) ?_
 refine dt 6 rfl rfl rfl rfl s78 (fun _ hS => px_load rfl ((f67.chg hS (by omega)).load1 rfl Tryz.isAgg28)) ?_
 refine dt 7 rfl rfl rfl rfl s78 (fun _ hS => px_move rfl) ?_
 refine dx_eff 4 rfl (by kernel_rfl) ?_
 have f79 := os_54.ext d78
 refine sx_call rfl rfl Tryz.call20 (c_signed f79.sv (by omega)) (fun v80 w80 p80 => ?_)
 obtain ⟨rfl, c80⟩ := p80
 have zw80 := c80.size
 have s81 : Chg b4 (b4 + 1) w54 w80 := (Chg.zero (l := b4) (h := (b4 + 1)) (d78.t c80))
 refine wl_nil ?_
 refine dx_next s81 ?_
 refine dx_eff 8 rfl (by kernel_rfl) ?_
 have f83 := ((((f46.ext c47).ext c49).ext c54).ext d78).ext c80
 refine sx_call rfl rfl Tryz.call49 (c_iCurPlaces f83) (fun v84 w84 p84 => ?_)
 obtain ⟨rfl, c84⟩ := p84
 have zw84 := c84.size
 have s85 : Chg b4 (b4 + 1) w54 w84 := (Chg.zero (l := b4) (h := (b4 + 1)) ((d78.t c80).t c84))
 refine wl_nil ?_
 refine dx_next s85 ?_
 refine dx_eff 9 rfl (by kernel_rfl) ?_
 refine sx_call rfl rfl Tryz.call48 (c_natTen (by omega)) (fun v86 w86 p86 => ?_)
 obtain ⟨s86, rfl, os_86, c86⟩ := p86
 have zw86 := c86.size
 have s87 : Chg b4 (b4 + 1) w54 w86 := (Chg.zero (l := b4) (h := (b4 + 1)) (((d78.t c80).t c84).t c86))
 refine wl_nil ?_
 refine dx_next s87 ?_
 refine dx_eff 10 rfl (by kernel_rfl) ?_
 have f91 := (((((((f30.ext d45).ext c47).ext c49).ext c54).ext d78).ext c80).ext c84).ext c86
 refine sx_call rfl rfl Tryz.call21 (c_natMul f91.sv os_86.sv (by omega) (by omega)) (fun v92 w92 p92 => ?_)
 obtain ⟨s92, rfl, os_92, c92⟩ := p92
 have zw92 := c92.size
 have s93 : Chg b4 (b4 + 1) w54 w92 := (Chg.zero (l := b4) (h := (b4 + 1)) ((((d78.t c80).t c84).t c86).t c92))
 refine wl_nil ?_
 refine dx_next s93 ?_
 refine dx_eff 11 rfl (by kernel_rfl) ?_
 have f97 := (((f79.ext c80).ext c84).ext c86).ext c92
 refine sx_call rfl rfl Tryz.call50 (c_reduce f97.sv os_92.sv (by omega) (by omega) (Nat.mul_pos he1 (Nat.pow_pos (by decide)))) (fun v98 w98 p98 => ?_)
 obtain ⟨s98, t98, ls98, us98, lt98, ut98, rfl, os_98, ot_98, hd98, hl98, c98⟩ := p98
 have zw98 := c98.size
 have s99 : Chg b4 (b4 + 1) w54 w98 := (Chg.zero (l := b4) (h := (b4 + 1)) (((((d78.t c80).t c84).t c86).t c92).t c98))
 refine wl_nil ?_
 refine dx_next s99 ?_
 refine dt 12 rfl rfl rfl rfl s99 (fun _ hS => px_ex2 rfl rfl) ?_
 refine dt 13 rfl rfl rfl rfl s99 (fun _ hS => px_ex2 rfl rfl) ?_
 refine dx_eff 14 rfl (by kernel_rfl) ?_
 have f110 := (((((((((f41.ext d45).ext c47).ext c49).ext c54).ext d78).ext c80).ext c84).ext c86).ext c92).ext c98
 refine sx_store (vs := [.bool ((rR (sgI (nz (ng x1) (dg (((x1).natAbs) * (10 ^ (((curOf b).places)).toNat)))) (((x1).natAbs) * (10 ^ (((curOf b).places)).toNat))) (e1 * (10 ^ (((curOf a).places)).toNat))).1), s98, t98]) rfl rfl f110 rfl Tryz.sizeOf38 (nbl rfl) (one_cons rfl (one_cons os_98.one (one_cons ot_98.one one_nil))) (fun w100 sw100 fw100 cw100 => ?_)
 have zw100 := cw100.size
 have gw100 : Blk w100 b4 [.bool ((rR (sgI (nz (ng x1) (dg (((x1).natAbs) * (10 ^ (((curOf b).places)).toNat)))) (((x1).natAbs) * (10 ^ (((curOf b).places)).toNat))) (e1 * (10 ^ (((curOf a).places)).toNat))).1), s98, t98] 38 := fw100
 have q112 := Chg.step (l := b4) (h := (b4 + 1)) (Chg.zero (l := b4) (h := (b4 + 1)) (((((d78.t c80).t c84).t c86).t c92).t c98)) cw100 (by omega)
 have s111 : Chg b4 (b4 + 1) w54 w100 := q112
 refine wl_nil ?_
 refine dx_next s111 ?_
 refine dt 15 rfl rfl rfl rfl s111 (fun _ hS => px_assign rfl) ?_
 refine dx_done (by kernel_rfl) ?_
 refine q_n (k56 _ _ ?_)
 refine sx_sub (Sub.c 6 rfl (.c 7 rfl .nil)) ?_
 refine sx_retc ?_
 refine sx_ret2 Tryz.results19 ⟨_, rfl, gw100.loadA (vs := [.bool ((rR (sgI (nz (ng x1) (dg (((x1).natAbs) * (10 ^ (((curOf b).places)).toNat)))) (((x1).natAbs) * (10 ^ (((curOf b).places)).toNat))) (e1 * (10 ^ (((curOf a).places)).toNat))).1), s98, t98]) (look_lit rfl) Tryz.isAgg38 Tryz.sizeOf38⟩ rfl ?_
 have hrl := uRt_len (pv := pv) (ts := ts) (a := a) (b := b)
 have hre : uRt pv ts a b = rR (sgI (nz (ng x1) (dg (x1.natAbs * 10 ^ (curOf b).places.toNat))) (x1.natAbs * 10 ^ (curOf b).places.toNat)) (e1 * 10 ^ (curOf a).places.toNat) := by rw [uRt_ok hok hr1 hr2 hr3, sgI_nz]
 rw [hre] at hrl ⊢
 have q113 := Chg.step (l := 0) (h := 0) (Chg.zero (l := 0) (h := 0) (((cb2.t cb4).t c12).t cb13)) cw15 (by omega)
 have q114 := Chg.step (l := 0) (h := 0) q113 (((((((((d45.t c47).t c49).t c54).t d78).t c80).t c84).t c86).t c92).t c98) (by omega)
 have q115 := Chg.step (l := 0) (h := 0) q114 cw100 (by omega)
 have f116 := os_98.chg cw100 (by omega)
 have f117 := ot_98.chg cw100 (by omega)
 exact ⟨_, _, _, _, _, _, rfl, f116, f117, by omega, hrl, q115⟩

theorem c_rm1 {w : World} {n : Bool} {c : Int} {o : Bool} :
  Ret Tryz.prog 82 [.bool n, .int .i64 c, .bool o] w fun v w' => v = .bool (awayB 0 n c o) ∧ Chg 0 0 w w' := by
 refine sx_enter Tryz.func82 rfl Tryz.ntmps82 (nbl rfl) ?_
 refine sx_seq fun K1 k1 => sx_region ?_
 refine av rfl rfl (wl_nil (q_n (k1 _ _ ?_)))
 refine sx_seq fun K2 k2 => sx_region ?_
 refine av rfl rfl (wl_nil (q_n (k2 _ _ ?_)))
 refine sx_retc ?_
 refine sx_ret1 Tryz.results82 rfl ?_
 exact ⟨(by first | rfl | (simp_all [awayB]; done) | grind [awayB]), (Chg.refl 0 0 _)⟩

theorem c_rm2 {w : World} {n : Bool} {c : Int} {o : Bool} :
  Ret Tryz.prog 83 [.bool n, .int .i64 c, .bool o] w fun v w' => v = .bool (awayB 1 n c o) ∧ Chg 0 0 w w' := by
 refine sx_enter Tryz.func83 rfl Tryz.ntmps83 (nbl rfl) ?_
 refine sx_seq fun K1 k1 => sx_region ?_
 refine av rfl rfl (wl_nil (q_n (k1 _ _ ?_)))
 refine sx_seq fun K2 k2 => sx_region ?_
 refine av rfl rfl (wl_nil (q_n (k2 _ _ ?_)))
 refine sx_retc ?_
 refine sx_ret1 Tryz.results83 rfl ?_
 exact ⟨(by first | rfl | (simp_all [awayB]; done) | grind [awayB]), (Chg.refl 0 0 _)⟩

theorem c_rm3 {w : World} {n : Bool} {c : Int} {o : Bool} :
  Ret Tryz.prog 84 [.bool n, .int .i64 c, .bool o] w fun v w' => v = .bool (awayB 2 n c o) ∧ Chg 0 0 w w' := by
 refine sx_enter Tryz.func84 rfl Tryz.ntmps84 (nbl rfl) ?_
 refine sx_seq fun K1 k1 => sx_region ?_
 refine av rfl rfl (wl_nil (q_n (k1 _ _ ?_)))
 refine sx_seq fun K2 k2 => sx_region ?_
 refine mv rfl rfl (av rfl rfl (wl_nil (q_n (k2 _ _ ?_))))
 refine sx_retc ?_
 refine sx_ret1 Tryz.results84 rfl ?_
 exact ⟨(by first | rfl | (simp_all [awayB]; done) | grind [awayB]), (Chg.refl 0 0 _)⟩

theorem c_rm4 {w : World} {n : Bool} {c : Int} {o : Bool} :
  Ret Tryz.prog 85 [.bool n, .int .i64 c, .bool o] w fun v w' => v = .bool (awayB 3 n c o) ∧ Chg 0 0 w w' := by
 refine sx_enter Tryz.func85 rfl Tryz.ntmps85 (nbl rfl) ?_
 refine sx_seq fun K1 k1 => sx_region ?_
 refine av rfl rfl (wl_nil (q_n (k1 _ _ ?_)))
 refine sx_seq fun K2 k2 => sx_region ?_
 refine mv rfl rfl (sp rfl (px_not rfl) ?_)
 refine av rfl rfl (wl_nil (q_n (k2 _ _ ?_)))
 refine sx_retc ?_
 refine sx_ret1 Tryz.results85 rfl ?_
 exact ⟨(by first | rfl | (simp_all [awayB]; done) | grind [awayB]), (Chg.refl 0 0 _)⟩

theorem c_rm5 {w : World} {n : Bool} {c : Int} {o : Bool} :
  Ret Tryz.prog 86 [.bool n, .int .i64 c, .bool o] w fun v w' => v = .bool (awayB 4 n c o) ∧ Chg 0 0 w w' := by
 refine sx_enter Tryz.func86 rfl Tryz.ntmps86 (nbl rfl) ?_
 refine sx_seq fun K1 k1 => sx_region ?_
 refine av rfl rfl (wl_nil (q_n (k1 _ _ ?_)))
 refine sx_seq fun K2 k2 => sx_region ?_
 refine mv rfl rfl (sp rfl (px_gt rfl rfl) ?_)
 refine av rfl rfl (wl_nil (q_n (k2 _ _ ?_)))
 refine sx_retc ?_
 refine sx_ret1 Tryz.results86 rfl ?_
 exact ⟨(by first | rfl | (simp_all [awayB]; done) | grind [awayB]), (Chg.refl 0 0 _)⟩

theorem c_rm6 {w : World} {n : Bool} {c : Int} {o : Bool} :
  Ret Tryz.prog 87 [.bool n, .int .i64 c, .bool o] w fun v w' => v = .bool (awayB 5 n c o) ∧ Chg 0 0 w w' := by
 refine sx_enter Tryz.func87 rfl Tryz.ntmps87 (nbl rfl) ?_
 refine sx_seq fun K1 k1 => sx_region ?_
 refine av rfl rfl (wl_nil (q_n (k1 _ _ ?_)))
 refine sx_seq fun K2 k2 => sx_region ?_
 refine mv rfl rfl (sp rfl (px_ge rfl rfl) ?_)
 refine av rfl rfl (wl_nil (q_n (k2 _ _ ?_)))
 refine sx_retc ?_
 refine sx_ret1 Tryz.results87 rfl ?_
 exact ⟨(by first | rfl | (simp_all [awayB]; done) | grind [awayB]), (Chg.refl 0 0 _)⟩

theorem c_rm7 {w : World} {n : Bool} {c : Int} {o : Bool} :
  Ret Tryz.prog 88 [.bool n, .int .i64 c, .bool o] w fun v w' => v = .bool (awayB 6 n c o) ∧ Chg 0 0 w w' := by
 refine sx_enter Tryz.func88 rfl Tryz.ntmps88 (nbl rfl) ?_
 refine sx_seq fun K1 k1 => sx_region ?_
 refine av rfl rfl (wl_nil (q_n (k1 _ _ ?_)))
 refine sx_seq fun K2 k2 => sx_region ?_
 refine mv rfl rfl (sp rfl (px_gt rfl rfl) ?_)
 refine mv rfl rfl ?_
 refine sx_tmpP (t := 9) rfl (fun h29 => ?_) (fun h29 => ?_)
 ·
  refine sx_guardF rfl rfl rfl rfl rfl rfl ?_
  refine sx_guardF rfl rfl rfl rfl rfl rfl ?_
  refine sx_guardF rfl rfl rfl rfl rfl rfl ?_
  refine sx_guardFU rfl rfl rfl rfl rfl ?_
  refine sx_guardF rfl rfl rfl rfl rfl rfl ?_
  refine sp rfl (px_pick rfl rfl) ?_
  refine av rfl rfl (wl_nil (q_n (k2 _ _ ?_)))
  refine sx_retc ?_
  refine sx_ret1 Tryz.results88 rfl ?_
  exact ⟨(by first | rfl | (simp_all [awayB]; done) | grind [awayB]), (Chg.refl 0 0 _)⟩
 refine sx_guardT rfl rfl rfl ?_
 refine mv rfl rfl ?_
 refine sx_guardT rfl rfl rfl ?_
 refine sp rfl (px_eq rfl rfl) ?_
 refine sx_guardT rfl rfl rfl ?_
 refine mv rfl rfl ?_
 refine sx_tmpP (t := 12) rfl (fun h29x1 => ?_) (fun h29x1 => ?_)
 ·
  refine sx_guardT rfl rfl rfl ?_
  refine mv rfl rfl ?_
  refine sx_guardT rfl rfl rfl ?_
  refine sp rfl (px_pick rfl rfl) ?_
  refine sp rfl (px_pick rfl rfl) ?_
  refine av rfl rfl (wl_nil (q_n (k2 _ _ ?_)))
  refine sx_retc ?_
  refine sx_ret1 Tryz.results88 rfl ?_
  exact ⟨(by first | rfl | (simp_all [awayB]; done) | grind [awayB]), (Chg.refl 0 0 _)⟩
 refine sx_guardF rfl rfl rfl rfl rfl rfl ?_
 refine sx_guardT rfl rfl rfl ?_
 refine sp rfl (px_pick rfl rfl) ?_
 refine sp rfl (px_pick rfl rfl) ?_
 refine av rfl rfl (wl_nil (q_n (k2 _ _ ?_)))
 refine sx_retc ?_
 refine sx_ret1 Tryz.results88 rfl ?_
 exact ⟨(by first | rfl | (simp_all [awayB]; done) | grind [awayB]), (Chg.refl 0 0 _)⟩

theorem c_away {w : World} {n o : Bool} {c m : Int} (hm : 0 ≤ m ∧ m ≤ 6) :
  Ret Tryz.prog (rmF m) [.bool n, .int .i64 c, .bool o] w fun v w' => v = .bool (awayB m n c o) ∧ Chg 0 0 w w' := by
 rcases rm_cases hm with h | h | h | h | h | h | h
 · subst h; exact c_rm1
 · subst h; exact c_rm2
 · subst h; exact c_rm3
 · subst h; exact c_rm4
 · subst h; exact c_rm5
 · subst h; exact c_rm6
 · subst h; exact c_rm7

theorem c_roundModes {w : World} :
  Ret Tryz.prog 53 [] w fun v w' => v = .agg #[.string ⟨#[100, 111, 119, 110]⟩, .func (.func 82) #[] #[], .string ⟨#[117, 112]⟩, .func (.func 83) #[] #[], .string ⟨#[102, 108, 111, 111, 114]⟩, .func (.func 84) #[] #[], .string ⟨#[99, 101, 105, 108]⟩, .func (.func 85) #[] #[], .string ⟨#[104, 97, 108, 102, 100, 111, 119, 110]⟩, .func (.func 86) #[] #[], .string ⟨#[104, 97, 108, 102, 117, 112]⟩, .func (.func 87) #[] #[], .string ⟨#[104, 97, 108, 102, 101, 118, 101, 110]⟩, .func (.func 88) #[] #[]] ∧ Chg 0 0 w w' := by
 refine sx_enter Tryz.func53 rfl Tryz.ntmps53 (nbl rfl) ?_
 refine sx_seq fun K1 k1 => sx_region ?_
 refine sx_alloc [.string (⟨#[]⟩), .nilFunc, .string (⟨#[]⟩), .nilFunc, .string (⟨#[]⟩), .nilFunc, .string (⟨#[]⟩), .nilFunc, .string (⟨#[]⟩), .nilFunc, .string (⟨#[]⟩), .nilFunc, .string (⟨#[]⟩), .nilFunc] rfl Tryz.zeroValue92 rfl (fun b2 w3 eb2 sb2 fb2 cb2 => ?_)
 have zw3 := cb2.size
 refine wl_nil (q_n (k1 _ _ ?_))
 refine sx_seq fun K4 k4 => sx_region ?_
 refine sp rfl (px_build rfl (xbld91x0x1 rfl rfl _)) ?_
 refine sp rfl (px_build rfl (xbld91x0x1 rfl rfl _)) ?_
 refine sp rfl (px_build rfl (xbld91x0x1 rfl rfl _)) ?_
 refine sp rfl (px_build rfl (xbld91x0x1 rfl rfl _)) ?_
 refine sp rfl (px_build rfl (xbld91x0x1 rfl rfl _)) ?_
 refine sp rfl (px_build rfl (xbld91x0x1 rfl rfl _)) ?_
 refine sp rfl (px_build rfl (xbld91x0x1 rfl rfl _)) ?_
 refine sp rfl (px_build rfl (xbld92x0x1x2x3x4x5x6 _)) ?_
 refine sx_store (vs := [.string (⟨#[100, 111, 119, 110]⟩), .func (.func 82) #[] #[], .string (⟨#[117, 112]⟩), .func (.func 83) #[] #[], .string (⟨#[102, 108, 111, 111, 114]⟩), .func (.func 84) #[] #[], .string (⟨#[99, 101, 105, 108]⟩), .func (.func 85) #[] #[], .string (⟨#[104, 97, 108, 102, 100, 111, 119, 110]⟩), .func (.func 86) #[] #[], .string (⟨#[104, 97, 108, 102, 117, 112]⟩), .func (.func 87) #[] #[], .string (⟨#[104, 97, 108, 102, 101, 118, 101, 110]⟩), .func (.func 88) #[] #[]]) rfl rfl fb2 rfl Tryz.sizeOf92 (nbl rfl) (one_cons rfl (one_cons rfl (one_cons rfl (one_cons rfl (one_cons rfl (one_cons rfl (one_cons rfl (one_cons rfl (one_cons rfl (one_cons rfl (one_cons rfl (o3 rfl rfl rfl)))))))))))) (fun w5 sw5 fw5 cw5 => ?_)
 have zw5 := cw5.size
 have gw5 : Blk w5 b2 [.string (⟨#[100, 111, 119, 110]⟩), .func (.func 82) #[] #[], .string (⟨#[117, 112]⟩), .func (.func 83) #[] #[], .string (⟨#[102, 108, 111, 111, 114]⟩), .func (.func 84) #[] #[], .string (⟨#[99, 101, 105, 108]⟩), .func (.func 85) #[] #[], .string (⟨#[104, 97, 108, 102, 100, 111, 119, 110]⟩), .func (.func 86) #[] #[], .string (⟨#[104, 97, 108, 102, 117, 112]⟩), .func (.func 87) #[] #[], .string (⟨#[104, 97, 108, 102, 101, 118, 101, 110]⟩), .func (.func 88) #[] #[]] 92 := fw5
 refine wl_nil (q_n (k4 _ _ ?_))
 refine sx_retc ?_
 refine sx_ret1 Tryz.results53 ⟨_, rfl, gw5.loadA (vs := [.string (⟨#[100, 111, 119, 110]⟩), .func (.func 82) #[] #[], .string (⟨#[117, 112]⟩), .func (.func 83) #[] #[], .string (⟨#[102, 108, 111, 111, 114]⟩), .func (.func 84) #[] #[], .string (⟨#[99, 101, 105, 108]⟩), .func (.func 85) #[] #[], .string (⟨#[104, 97, 108, 102, 100, 111, 119, 110]⟩), .func (.func 86) #[] #[], .string (⟨#[104, 97, 108, 102, 117, 112]⟩), .func (.func 87) #[] #[], .string (⟨#[104, 97, 108, 102, 101, 118, 101, 110]⟩), .func (.func 88) #[] #[]]) (look_lit rfl) Tryz.isAgg92 Tryz.sizeOf92⟩ ?_
 have q6 := Chg.step (l := 0) (h := 0) (Chg.zero (l := 0) (h := 0) cb2) cw5 (by omega)
 exact ⟨rfl, q6⟩

end Go.Proofs.YtlnemcbdbehehaaGreatDoor
