/- Contracts of functions of the program: what each call returns, and that it changes nothing that was. Conditions: as each says. -/
import Derived.Test.YtjkeefmpjocilaaTy
import Derived.Test.YtjkeefmpjocilaaNatI
import Derived.Test.YtjkeefmpjocilaaSxW
import Derived.Test.YtjkeefmpjocilaaSxQ
import Derived.Test.YtjkeefmpjocilaaSxR
import Derived.Test.YtjkeefmpjocilaaSxP
import Derived.Test.YtjkeefmpjocilaaRm
import Derived.Test.YtjkeefmpjocilaaL3
import Derived.Test.YtjkeefmpjocilaaL4
import Derived.Test.YtjkeefmpjocilaaL6
import Derived.Test.YtjkeefmpjocilaaNatSk
import Derived.Test.YtjkeefmpjocilaaLay
import Derived.Test.YtjkeefmpjocilaaSxU
import Derived.Test.YtjkeefmpjocilaaNatSm
set_option linter.unusedVariables false
set_option linter.unusedSimpArgs false
namespace Go.Proofs.Ytjkeefmpjocilaa
open Go Go.RowKit
set_option maxRecDepth 100000
set_option maxHeartbeats 1000000
theorem law_FnEven {w : World} {vb : Value} {lvb uvb : Nat} {bs : List Int} (hvb : SlB w lvb uvb vb (bs)) (hb8 : ∀ j, j < bs.length → 0 ≤ bs.getD j 0 ∧ bs.getD j 0 ≤ 255) (hbs : bs.length ≤ 9223372036854775807) :
  Ret Try.prog 4 [vb] w fun v w' => v = .bool (true) ∧ Chg 0 0 w w' := by
 have hvb0 := hvb.fit
 refine sx_enter Try.func4 rfl Try.ntmps4 (nbl rfl) ?_
 refine sx_seq fun K1 k1 => sx_region ?_
 refine av rfl rfl (wl_nil (q_n (k1 _ _ ?_)))
 refine sx_seq fun K2 k2 => ?_
 refine sx_seq fun K3 k3 => sx_region ?_
 refine mv rfl rfl (sp rfl (px_len rfl Try.underlying22 hvb0) ?_)
 refine sp rfl (px_gt rfl rfl) ?_
 refine wl_nil (q_n (k3 _ _ ?_))
 refine sx_condP rfl (fun h230 => ?_) (fun h230 => ?_)
 ·
  refine sx_seq fun K4 k4 => sx_region ?_
  refine av rfl rfl (wl_nil (q_n (k4 _ _ ?_)))
  refine sx_retc ?_
  refine q_r (sx_ret1 Try.results4 rfl ?_)
  exact ⟨rfl, (Chg.refl 0 0 _)⟩
 refine sx_skip ?_
 refine q_n (k2 _ _ ?_)
 refine sx_seq fun K5 k5 => sx_region ?_
 refine mv rfl rfl (sx_call rfl rfl Try.call5 (c_MakeInt hvb0 (by assumption) (by omega)) (fun v6 w6 p6 => ?_))
 obtain ⟨s6, x6, rfl, os_6, hx6, c6⟩ := p6
 have zw6 := c6.size
 have hx3 := hx6
 refine sx_alloc [.bool false, (.slice none 0 0)] rfl Try.zeroValue25 rfl (fun b7 w8 eb7 sb7 fb7 cb7 => ?_)
 have zw8 := cb7.size
 have f10 := os_6.ext cb7
 refine sx_store (vs := [.bool (ng x6), s6]) rfl rfl fb7 rfl Try.sizeOf25 (nbl rfl) (one_cons rfl (one_cons f10.one one_nil)) (fun w9 sw9 fw9 cw9 => ?_)
 have zw9 := cw9.size
 have gw9 : Blk w9 b7 [.bool (ng x6), s6] 25 := fw9
 refine wl_nil (q_n (k5 _ _ ?_))
 refine sx_seq fun K11 k11 => sx_region ?_
 refine mv rfl rfl ?_
 have f13 := (hvb0.ext c6).ext cb7
 have f14 := f13.chg cw9 (by omega)
 refine sx_call rfl rfl Try.call16 (c_MakeNumN f14 (by assumption) (by omega) (by omega)) (fun v15 w15 p15 => ?_)
 obtain ⟨m15, rfl, hx15, c15⟩ := p15
 have zw15 := c15.size
 refine sp rfl (px_add rfl rfl (by omega)) ?_
 refine av rfl rfl (wl_nil (q_n (k11 _ _ ?_)))
 refine sx_seq fun K16 k16 => ?_
 refine sx_sub (Sub.c 0 rfl (.c 2 rfl (.c 3 rfl (.c 4 (look_int (b := ((1 + m15 : Nat) : Int)) rfl (by omega)) .nil)))) ?_
 refine sx_region ?_
 have f17 := gw9.ext c15
 refine sp rfl (px_load rfl (f17.loadA (vs := [.bool (ng x6), s6]) (look_lit rfl) Try.isAgg25 Try.sizeOf25)) ?_
 refine mv rfl rfl ?_
 have f18 := f10.chg cw9 (by omega)
 have f19 := f18.ext c15
 refine sx_call rfl rfl Try.call17 (c_iSharesEven f19.sv (by omega) (by omega)) (fun v20 w20 p20 => ?_)
 obtain ⟨s20, us20, rfl, os_20, hix20, c20⟩ := p20
 have zw20 := c20.size
 have hixx := hix20
 have hon : (ones (1 + m15)).length = (1 + m15) := ones_len
 have hsn : (shrs (x6) (ones (1 + m15))).length = (1 + m15) := by rw [shrs_len]; exact ones_len
 have hsum : (shrs (x6) (ones (1 + m15))).sum = (x6) := by obtain ⟨ix, hP, hs⟩ := hixx; exact shr_sum (ones_ok (by omega)) hP hs
 have hsl3 : (dg ((shrs (x6) (ones (1 + m15))).sum).natAbs).length ≤ 3 := by rw [hsum]; exact hx3
 have hsb := even_abs (x := (x6)) (n := (1 + m15)) (k := 3) (by omega) hx3
 have hb0 := hsb 0 (by omega)
 have hbn := hsb ((1 + m15) - 1) (by omega)
 refine mv rfl rfl (sp rfl (px_ex2 rfl rfl) ?_)
 refine sp rfl (px_ex2 rfl rfl) ?_
 refine av rfl rfl (av rfl rfl (wl_nil (q_n (k16 _ _ ?_))))
 refine sx_seq fun K21 k21 => ?_
 refine sx_seq fun K22 k22 => ?_
 have f23 := f17.ext c20
 have f25 := (f14.ext c15).ext c20
 refine dx_region (fun w' => Chg 0 0 w20 w') (by kernel_rfl) (Chg.zero (Chg.drew _)) ?_
 have d27 := Chg.drew w20
 have s27 : Chg 0 0 w20 (World.drew w20) := Chg.zero (Chg.drew _)
 have y27 : (World.drew w20).heap.size = w20.heap.size := rfl
 generalize World.drew w20 = w27 at *
 have zw27 := d27.size
 refine dt 0 rfl rfl rfl rfl s27 (fun _ hS => px_move rfl) ?_
 refine dt 1 rfl rfl rfl rfl s27 (fun _ hS => px_not rfl) ?_
 refine dt 2 rfl rfl rfl rfl s27 (fun _ hS => px_move rfl) ?_
 refine dx_takeG 3 rfl rfl rfl rfl rfl rfl (by kernel_rfl) (by kernel_rfl) (by kernel_rfl) s27 (fun _ hS => px_move rfl) ?_
 refine dx_takeG 4 rfl rfl rfl rfl rfl rfl (by kernel_rfl) (by kernel_rfl) (by kernel_rfl) s27 (fun _ hS => px_len rfl Try.underlying28 ((os_20.sv).chg hS (by omega))) ?_
 refine dx_takeG 5 rfl rfl rfl rfl rfl rfl (by kernel_rfl) (by kernel_rfl) (by kernel_rfl) s27 (fun _ hS => px_move rfl) ?_
 refine dx_takeG 6 rfl rfl rfl rfl rfl rfl (by kernel_rfl) (by kernel_rfl) (by kernel_rfl) s27 (fun _ hS => px_ne rfl rfl) ?_
 refine dt 7 rfl rfl rfl rfl s27 (fun _ hS => px_pick rfl rfl) ?_
 refine dt 8 rfl rfl rfl rfl s27 (fun _ hS => px_move rfl) ?_
 have h236 : ¬ ((↑((shrs (x6) (ones (1 + m15))).length) : Int) ≠ ((1 + m15 : Nat) : Int)) := fun h => h (by omega)
 refine dx_tmpPF (t := 31) rfl h236 ?_
 refine dx_takeG 9 rfl rfl rfl rfl rfl rfl (by kernel_rfl) (by kernel_rfl) (by kernel_rfl) s27 (fun _ hS => px_move rfl) ?_
 refine dx_takeG 11 rfl rfl rfl rfl rfl rfl (by kernel_rfl) (by kernel_rfl) (by kernel_rfl) s27 (fun _ hS => px_load rfl ((f23.chg hS (by omega)).loadA (vs := [.bool (ng x6), s6]) (look_lit rfl) Try.isAgg25 Try.sizeOf25)) ?_
 refine dx_eff 10 rfl (by kernel_rfl) ?_
 refine sx_guardT rfl rfl rfl ?_
 have f28 := os_20.ext d27
 refine sx_call rfl rfl Try.call9 (c_iIntSumK f28 (by omega) (fun i hi => Nat.le_trans (hsb i (by omega)) (by decide))) (fun v29 w29 p29 => ?_)
 obtain ⟨s29, rfl, os_29, c29⟩ := p29
 have zw29 := c29.size
 have s30 : Chg 0 0 w20 w29 := (d27.t c29)
 refine wl_nil ?_
 refine dx_next s30 ?_
 refine dx_eff 12 rfl (by kernel_rfl) ?_
 refine sx_guardT rfl rfl rfl ?_
 have f32 := ((f19.ext c20).ext d27).ext c29
 refine sx_call rfl rfl Try.call8 (c_iIntCmpK os_29.sv f32.sv (by first | omega | (rw [Int.natAbs_natCast]; omega)) (by first | omega | (rw [Int.natAbs_natCast]; omega) | exact Nat.le_trans (dg_len_le (k := 1) (by decide)) (by decide))) (fun v33 w33 p33 => ?_)
 obtain ⟨rfl, c33⟩ := p33
 have zw33 := c33.size
 have s34 : Chg 0 0 w20 w33 := ((d27.t c29).t c33)
 refine wl_nil ?_
 refine dx_next s34 ?_
 refine dx_takeG 13 rfl rfl rfl rfl rfl rfl (by kernel_rfl) (by kernel_rfl) (by kernel_rfl) s34 (fun _ hS => px_ne rfl rfl) ?_
 refine dt 14 rfl rfl rfl rfl s34 (fun _ hS => px_pick rfl rfl) ?_
 refine dx_done (by kernel_rfl) ?_
 refine q_n (k22 _ _ ?_)
 refine sx_sub (Sub.c 2 rfl (.c 4 rfl (.c 5 rfl (.c 37 rfl .nil)))) ?_
 have h236x1 : ¬ ((cmpI (((shrs (x6) (ones (1 + m15)))).sum) (x6) : Int) ≠ 0) := Decidable.not_not.2 (cmpI_eq0 hsum)
 refine sx_condPF rfl h236x1 ?_
 refine sx_skip ?_
 refine q_n (k21 _ _ ?_)
 refine sx_seq fun K35 k35 => ?_
 refine sx_seq fun K36 k36 => sx_region ?_
 refine av rfl rfl (wl_nil (q_n (k36 _ _ ?_)))
 refine sx_block ?_
 refine sx_loop (fun mm aa w' => ∃ (k : Nat), Agr 71 [(4, .int .i64 ((1 + m15 : Nat) : Int)), (5, s20), (7, .int .i64 ↑k)] aa ∧ Chg 0 0 w33 w' ∧ (mm = (1 + m15) - k) ∧ (1 ≤ k ∧ k ≤ (1 + m15))) (_) (fun a ha => ⟨1, ha.sub (Sub.c 4 rfl (.c 5 rfl (.c 7 (look_int (t := 7) rfl (by first | omega | simp)) .nil))), Chg.refl _ _ _, rfl, by omega⟩) ?_
 rintro mm aa wl37 ⟨k, hAwl37, cwl37, hm, hk⟩
 refine (show cw Try.prog 71 _ _ _ wl37 from ?_) aa hAwl37
 clear hAwl37
 have zwl37 := cwl37.size
 refine sx_seq fun K38 k38 => ?_
 refine sx_seq fun K39 k39 => sx_region ?_
 refine mv rfl rfl (mv rfl rfl (sp rfl (px_lt rfl rfl) ?_))
 refine wl_nil (q_n (k39 _ _ ?_))
 refine sx_condP rfl (fun h239 => ?_) (fun h239 => ?_)
 ·
  have hbk := hsb k (by omega)
  have hbj := hsb (k - 1) (by omega)
  refine sx_skip ?_
  refine q_n (k38 _ _ ?_)
  refine sx_seq fun K40 k40 => ?_
  refine sx_block ?_
  refine sx_seq fun K41 k41 => ?_
  have f45 := (((f23.ext d27).ext c29).ext c33).ext cwl37
  have f49 := (((f25.ext d27).ext c29).ext c33).ext cwl37
  have f51 := (f32.ext c33).ext cwl37
  have f54 := ((f28.ext c29).ext c33).ext cwl37
  refine dx_region (fun w' => Chg 0 0 wl37 w') (by kernel_rfl) (Chg.zero (Chg.drew _)) ?_
  have d55 := Chg.drew wl37
  have s55 : Chg 0 0 wl37 (World.drew wl37) := Chg.zero (Chg.drew _)
  have y55 : (World.drew wl37).heap.size = wl37.heap.size := rfl
  generalize World.drew wl37 = w55 at *
  have zw55 := d55.size
  refine dt 0 rfl rfl rfl rfl s55 (fun _ hS => px_move rfl) ?_
  refine dt 1 rfl rfl rfl rfl s55 (fun _ hS => px_move rfl) ?_
  refine dt 2 rfl rfl rfl rfl s55 (fun _ hS => px_sub rfl rfl (by omega)) ?_
  refine dt 3 rfl rfl rfl rfl s55 (fun _ hS => px_indexK (j := (k - 1)) rfl rfl (by omega) Try.underlying28 Try.sizeOf25 ((f54.sv).chg hS (by omega)) (by omega)) ?_
  refine dt 4 rfl rfl rfl rfl s55 (fun _ hS => px_load rfl (((f54.sv).chg hS (by omega)).loadA (sg_look (by omega)) Try.isAgg25 Try.sizeOf25)) ?_
  refine dt 6 rfl rfl rfl rfl s55 (fun _ hS => px_move rfl) ?_
  refine dt 7 rfl rfl rfl rfl s55 (fun _ hS => px_move rfl) ?_
  refine dt 8 rfl rfl rfl rfl s55 (fun _ hS => px_indexK (j := k) rfl rfl (by omega) Try.underlying28 Try.sizeOf25 ((f54.sv).chg hS (by omega)) (by omega)) ?_
  refine dt 9 rfl rfl rfl rfl s55 (fun _ hS => px_load rfl (((f54.sv).chg hS (by omega)).loadA (sg_look (by omega)) Try.isAgg25 Try.sizeOf25)) ?_
  refine dx_eff 5 rfl (by kernel_rfl) ?_
  have f56 := (f54.nest (k - 1) (by omega)).ext d55
  refine sx_call rfl rfl Try.call18 (c_iIntAbsK f56 (by omega)) (fun v57 w57 p57 => ?_)
  obtain ⟨s57, rfl, os_57, c57⟩ := p57
  have zw57 := c57.size
  have s58 : Chg 0 0 wl37 w57 := (d55.t c57)
  refine wl_nil ?_
  refine dx_next s58 ?_
  refine dx_eff 10 rfl (by kernel_rfl) ?_
  have f60 := ((f54.nest k (by omega)).ext d55).ext c57
  refine sx_call rfl rfl Try.call18 (c_iIntAbsK f60 (by omega)) (fun v61 w61 p61 => ?_)
  obtain ⟨s61, rfl, os_61, c61⟩ := p61
  have zw61 := c61.size
  have s62 : Chg 0 0 wl37 w61 := ((d55.t c57).t c61)
  refine wl_nil ?_
  refine dx_next s62 ?_
  refine dx_eff 11 rfl (by kernel_rfl) ?_
  have f63 := os_57.ext c61
  refine sx_call rfl rfl Try.call8 (c_iIntCmpK f63.sv os_61.sv (by first | omega | (rw [Int.natAbs_natCast]; omega)) (by first | omega | (rw [Int.natAbs_natCast]; omega) | exact Nat.le_trans (dg_len_le (k := 1) (by decide)) (by decide))) (fun v64 w64 p64 => ?_)
  obtain ⟨rfl, c64⟩ := p64
  have zw64 := c64.size
  have s65 : Chg 0 0 wl37 w64 := (((d55.t c57).t c61).t c64)
  refine wl_nil ?_
  refine dx_next s65 ?_
  refine dt 12 rfl rfl rfl rfl s65 (fun _ hS => px_lt rfl rfl) ?_
  refine dx_done (by kernel_rfl) ?_
  refine q_n (k41 _ _ ?_)
  refine sx_sub (Sub.c 4 rfl (.c 5 rfl (.c 7 rfl (.c 55 rfl .nil)))) ?_
  have h240 : ¬ ((cmpI (((((shrs (x6) (ones (1 + m15))).getD (k - 1) 0)).natAbs : Int)) (((((shrs (x6) (ones (1 + m15))).getD k 0)).natAbs : Int)) : Int) < 0) := even_order (by omega) (by omega)
  refine sx_condPF rfl h240 ?_
  refine sx_skip ?_
  refine q_bn (q_n (k40 _ _ ?_))
  refine sx_region ?_
  refine mv rfl rfl (sp rfl (px_add rfl rfl (by omega)) ?_)
  refine av rfl rfl (wl_nil ?_)
  exact fun a ha => ⟨_, by omega, (k + 1), ha.sub (Sub.c 4 rfl (.c 5 rfl (.c 7 (look_int (t := 7) rfl (by first | omega | simp)) .nil))), ((((cwl37.t d55).t c57).t c61).t c64), rfl, by omega⟩
 refine sx_exit ?_
 refine q_e (q_e (q_bx (q_n (k35 _ _ ?_))))
 refine sx_seq fun K66 k66 => ?_
 refine sx_cut k66 (fun fr w' => ∃ (gb67x0 : Nat) (gs67x1 : Value) (gl67x1 : Nat) (gu67x1 : Nat), fr = [(8, .pointer (some ⟨gb67x0, 0, none⟩))] ∧ Chg 0 0 wl37 w' ∧ (Blk w' gb67x0 [.bool (ng ((((((shrs (x6) (ones (1 + m15))).getD 0 0)).natAbs : Int)) + -(((((shrs (x6) (ones (1 + m15))).getD ((1 + m15) - 1) 0)).natAbs : Int)))), gs67x1] 25) ∧ (Own w' gl67x1 gu67x1 gs67x1 intT ((dg ((((((shrs (x6) (ones (1 + m15))).getD 0 0)).natAbs : Int)) + -(((((shrs (x6) (ones (1 + m15))).getD ((1 + m15) - 1) 0)).natAbs : Int))).natAbs).length) 1 ((dg ((((((shrs (x6) (ones (1 + m15))).getD 0 0)).natAbs : Int)) + -(((((shrs (x6) (ones (1 + m15))).getD ((1 + m15) - 1) 0)).natAbs : Int))).natAbs).map (Value.int .i64))) ∧ (wl37.heap.size ≤ gb67x0 ∧ gb67x0 + 1 ≤ w'.heap.size) ∧ (wl37.heap.size ≤ gl67x1 ∧ gu67x1 ≤ w'.heap.size) ∧ (gu67x1 ≤ gb67x0 ∨ gb67x0 + 1 ≤ gl67x1)) (fun kc67 => ?_) ?_
 ·
  have f71 := (((f23.ext d27).ext c29).ext c33).ext cwl37
  have f75 := (((f25.ext d27).ext c29).ext c33).ext cwl37
  have f77 := (f32.ext c33).ext cwl37
  have f80 := ((f28.ext c29).ext c33).ext cwl37
  refine dx_region (fun w' => Chg 0 0 wl37 w') (by kernel_rfl) (Chg.zero (Chg.drew _)) ?_
  have d81 := Chg.drew wl37
  have s81 : Chg 0 0 wl37 (World.drew wl37) := Chg.zero (Chg.drew _)
  have y81 : (World.drew wl37).heap.size = wl37.heap.size := rfl
  generalize World.drew wl37 = w81 at *
  have zw81 := d81.size
  refine dt 0 rfl rfl rfl rfl s81 (fun _ hS => px_move rfl) ?_
  refine dt 1 rfl rfl rfl rfl s81 (fun _ hS => px_indexK (j := 0) rfl rfl (by omega) Try.underlying28 Try.sizeOf25 ((f80.sv).chg hS (by omega)) (by omega)) ?_
  refine dt 2 rfl rfl rfl rfl s81 (fun _ hS => px_load rfl (((f80.sv).chg hS (by omega)).loadA (sg_look (by omega)) Try.isAgg25 Try.sizeOf25)) ?_
  refine dt 4 rfl rfl rfl rfl s81 (fun _ hS => px_move rfl) ?_
  refine dt 5 rfl rfl rfl rfl s81 (fun _ hS => px_move rfl) ?_
  refine dt 6 rfl rfl rfl rfl s81 (fun _ hS => px_sub rfl rfl (by omega)) ?_
  refine dt 7 rfl rfl rfl rfl s81 (fun _ hS => px_indexK (j := ((1 + m15) - 1)) rfl rfl (by omega) Try.underlying28 Try.sizeOf25 ((f80.sv).chg hS (by omega)) (by omega)) ?_
  refine dt 8 rfl rfl rfl rfl s81 (fun _ hS => px_load rfl (((f80.sv).chg hS (by omega)).loadA (sg_look (by omega)) Try.isAgg25 Try.sizeOf25)) ?_
  refine dx_eff2 3 11 rfl rfl (by kernel_rfl) ?_ ?_
  ·
   have f82 := (f80.nest 0 (by omega)).ext d81
   refine sx_call rfl rfl Try.call18 (c_iIntAbsK f82 (by omega)) (fun v83 w83 p83 => ?_)
   obtain ⟨s83, rfl, os_83, c83⟩ := p83
   have zw83 := c83.size
   have s84 : Chg 0 0 wl37 w83 := (d81.t c83)
   refine wl_nil ?_
   refine dx_next s84 ?_
   refine dx_eff2 9 11 rfl rfl (by kernel_rfl) ?_ ?_
   ·
    have f86 := ((f80.nest ((1 + m15) - 1) (by omega)).ext d81).ext c83
    refine sx_call rfl rfl Try.call18 (c_iIntAbsK f86 (by omega)) (fun v87 w87 p87 => ?_)
    obtain ⟨s87, rfl, os_87, c87⟩ := p87
    have zw87 := c87.size
    have s88 : Chg 0 0 wl37 w87 := ((d81.t c83).t c87)
    refine wl_nil ?_
    refine dx_next s88 ?_
    refine dx_eff2 10 11 rfl rfl (by kernel_rfl) ?_ ?_
    ·
     have f89 := os_83.ext c87
     refine sx_call rfl rfl Try.call19 (c_iIntSubK f89.sv os_87.sv (by rw [Int.natAbs_natCast]; omega) (by rw [Int.natAbs_natCast]; omega)) (fun v90 w90 p90 => ?_)
     obtain ⟨s90, rfl, os_90, c90⟩ := p90
     have zw90 := c90.size
     have s91 : Chg 0 0 wl37 w90 := (((d81.t c83).t c87).t c90)
     refine wl_nil ?_
     refine dx_next s91 ?_
     refine dx_eff 11 rfl (by kernel_rfl) ?_
     refine sx_alloc [.bool false, (.slice none 0 0)] rfl Try.zeroValue25 rfl (fun b92 w93 eb92 sb92 fb92 cb92 => ?_)
     have zw93 := cb92.size
     have s94 : Chg 0 0 wl37 w93 := ((((d81.t c83).t c87).t c90).t cb92)
     refine wl_nil ?_
     refine dx_next s94 ?_
     refine dx_eff 12 rfl (by kernel_rfl) ?_
     have f96 := os_90.ext cb92
     refine sx_store (vs := [.bool (ng ((((((shrs (x6) (ones (1 + m15))).getD 0 0)).natAbs : Int)) + -(((((shrs (x6) (ones (1 + m15))).getD ((1 + m15) - 1) 0)).natAbs : Int)))), s90]) rfl rfl fb92 rfl Try.sizeOf25 (nbl rfl) (one_cons rfl (one_cons f96.one one_nil)) (fun w95 sw95 fw95 cw95 => ?_)
     have zw95 := cw95.size
     have gw95 : Blk w95 b92 [.bool (ng ((((((shrs (x6) (ones (1 + m15))).getD 0 0)).natAbs : Int)) + -(((((shrs (x6) (ones (1 + m15))).getD ((1 + m15) - 1) 0)).natAbs : Int)))), s90] 25 := fw95
     have q98 := Chg.step (l := 0) (h := 0) (Chg.zero (l := 0) (h := 0) ((((d81.t c83).t c87).t c90).t cb92)) cw95 (by omega)
     have s97 : Chg 0 0 wl37 w95 := q98
     refine wl_nil ?_
     refine dx_next s97 ?_
     refine dx_done (by kernel_rfl) ?_
     have f99 := f96.chg cw95 (by omega)
     have q100 := Chg.step (l := 0) (h := 0) (Chg.zero (l := 0) (h := 0) ((((d81.t c83).t c87).t c90).t cb92)) cw95 (by omega)
     exact q_n (kw_sub (Sub.c 8 rfl .nil) (kc67 _ _ ⟨b92, s90, w87.heap.size, w90.heap.size, rfl, q100, gw95, f99, by omega, by omega, by omega⟩))
    refine sx_alloc [.bool false, (.slice none 0 0)] rfl Try.zeroValue25 rfl (fun b101 w102 eb101 sb101 fb101 cb101 => ?_)
    have zw102 := cb101.size
    have s103 : Chg 0 0 wl37 w102 := (((d81.t c83).t c87).t cb101)
    refine wl_nil ?_
    refine dx_next s103 ?_
    refine dx_eff 10 rfl (by kernel_rfl) ?_
    have f105 := (os_83.ext c87).ext cb101
    have f106 := os_87.ext cb101
    refine sx_call rfl rfl Try.call19 (c_iIntSubK f105.sv f106.sv (by rw [Int.natAbs_natCast]; omega) (by rw [Int.natAbs_natCast]; omega)) (fun v107 w107 p107 => ?_)
    obtain ⟨s107, rfl, os_107, c107⟩ := p107
    have zw107 := c107.size
    have s108 : Chg 0 0 wl37 w107 := ((((d81.t c83).t c87).t cb101).t c107)
    refine wl_nil ?_
    refine dx_next s108 ?_
    refine dx_eff 12 rfl (by kernel_rfl) ?_
    have f110 := fb101.ext c107
    refine sx_store (vs := [.bool (ng ((((((shrs (x6) (ones (1 + m15))).getD 0 0)).natAbs : Int)) + -(((((shrs (x6) (ones (1 + m15))).getD ((1 + m15) - 1) 0)).natAbs : Int)))), s107]) rfl rfl f110 rfl Try.sizeOf25 (nbl rfl) (one_cons rfl (one_cons os_107.one one_nil)) (fun w109 sw109 fw109 cw109 => ?_)
    have zw109 := cw109.size
    have gw109 : Blk w109 b101 [.bool (ng ((((((shrs (x6) (ones (1 + m15))).getD 0 0)).natAbs : Int)) + -(((((shrs (x6) (ones (1 + m15))).getD ((1 + m15) - 1) 0)).natAbs : Int)))), s107] 25 := fw109
    have q112 := Chg.step (l := 0) (h := 0) (Chg.zero (l := 0) (h := 0) ((((d81.t c83).t c87).t cb101).t c107)) cw109 (by omega)
    have s111 : Chg 0 0 wl37 w109 := q112
    refine wl_nil ?_
    refine dx_next s111 ?_
    refine dx_done (by kernel_rfl) ?_
    have f113 := os_107.chg cw109 (by omega)
    have q114 := Chg.step (l := 0) (h := 0) (Chg.zero (l := 0) (h := 0) ((((d81.t c83).t c87).t cb101).t c107)) cw109 (by omega)
    exact q_n (kw_sub (Sub.c 8 rfl .nil) (kc67 _ _ ⟨b101, s107, w102.heap.size, w107.heap.size, rfl, q114, gw109, f113, by omega, by omega, by omega⟩))
   refine sx_alloc [.bool false, (.slice none 0 0)] rfl Try.zeroValue25 rfl (fun b115 w116 eb115 sb115 fb115 cb115 => ?_)
   have zw116 := cb115.size
   have s117 : Chg 0 0 wl37 w116 := ((d81.t c83).t cb115)
   refine wl_nil ?_
   refine dx_next s117 ?_
   refine dx_eff 9 rfl (by kernel_rfl) ?_
   have f120 := (((f80.nest ((1 + m15) - 1) (by omega)).ext d81).ext c83).ext cb115
   refine sx_call rfl rfl Try.call18 (c_iIntAbsK f120 (by omega)) (fun v121 w121 p121 => ?_)
   obtain ⟨s121, rfl, os_121, c121⟩ := p121
   have zw121 := c121.size
   have s122 : Chg 0 0 wl37 w121 := (((d81.t c83).t cb115).t c121)
   refine wl_nil ?_
   refine dx_next s122 ?_
   refine dx_eff 10 rfl (by kernel_rfl) ?_
   have f123 := os_83.ext cb115
   have f124 := f123.ext c121
   refine sx_call rfl rfl Try.call19 (c_iIntSubK f124.sv os_121.sv (by rw [Int.natAbs_natCast]; omega) (by rw [Int.natAbs_natCast]; omega)) (fun v125 w125 p125 => ?_)
   obtain ⟨s125, rfl, os_125, c125⟩ := p125
   have zw125 := c125.size
   have s126 : Chg 0 0 wl37 w125 := ((((d81.t c83).t cb115).t c121).t c125)
   refine wl_nil ?_
   refine dx_next s126 ?_
   refine dx_eff 12 rfl (by kernel_rfl) ?_
   have f129 := (fb115.ext c121).ext c125
   refine sx_store (vs := [.bool (ng ((((((shrs (x6) (ones (1 + m15))).getD 0 0)).natAbs : Int)) + -(((((shrs (x6) (ones (1 + m15))).getD ((1 + m15) - 1) 0)).natAbs : Int)))), s125]) rfl rfl f129 rfl Try.sizeOf25 (nbl rfl) (one_cons rfl (one_cons os_125.one one_nil)) (fun w127 sw127 fw127 cw127 => ?_)
   have zw127 := cw127.size
   have gw127 : Blk w127 b115 [.bool (ng ((((((shrs (x6) (ones (1 + m15))).getD 0 0)).natAbs : Int)) + -(((((shrs (x6) (ones (1 + m15))).getD ((1 + m15) - 1) 0)).natAbs : Int)))), s125] 25 := fw127
   have q131 := Chg.step (l := 0) (h := 0) (Chg.zero (l := 0) (h := 0) ((((d81.t c83).t cb115).t c121).t c125)) cw127 (by omega)
   have s130 : Chg 0 0 wl37 w127 := q131
   refine wl_nil ?_
   refine dx_next s130 ?_
   refine dx_done (by kernel_rfl) ?_
   have f132 := os_125.chg cw127 (by omega)
   have q133 := Chg.step (l := 0) (h := 0) (Chg.zero (l := 0) (h := 0) ((((d81.t c83).t cb115).t c121).t c125)) cw127 (by omega)
   exact q_n (kw_sub (Sub.c 8 rfl .nil) (kc67 _ _ ⟨b115, s125, w121.heap.size, w125.heap.size, rfl, q133, gw127, f132, by omega, by omega, by omega⟩))
  refine sx_alloc [.bool false, (.slice none 0 0)] rfl Try.zeroValue25 rfl (fun b134 w135 eb134 sb134 fb134 cb134 => ?_)
  have zw135 := cb134.size
  have s136 : Chg 0 0 wl37 w135 := (d81.t cb134)
  refine wl_nil ?_
  refine dx_next s136 ?_
  refine dx_eff 3 rfl (by kernel_rfl) ?_
  have f138 := ((f80.nest 0 (by omega)).ext d81).ext cb134
  refine sx_call rfl rfl Try.call18 (c_iIntAbsK f138 (by omega)) (fun v139 w139 p139 => ?_)
  obtain ⟨s139, rfl, os_139, c139⟩ := p139
  have zw139 := c139.size
  have s140 : Chg 0 0 wl37 w139 := ((d81.t cb134).t c139)
  refine wl_nil ?_
  refine dx_next s140 ?_
  refine dx_eff 9 rfl (by kernel_rfl) ?_
  have f142 := ((f80.nest ((1 + m15) - 1) (by omega)).ext d81).ext cb134
  have f143 := f142.ext c139
  refine sx_call rfl rfl Try.call18 (c_iIntAbsK f143 (by omega)) (fun v144 w144 p144 => ?_)
  obtain ⟨s144, rfl, os_144, c144⟩ := p144
  have zw144 := c144.size
  have s145 : Chg 0 0 wl37 w144 := (((d81.t cb134).t c139).t c144)
  refine wl_nil ?_
  refine dx_next s145 ?_
  refine dx_eff 10 rfl (by kernel_rfl) ?_
  have f146 := os_139.ext c144
  refine sx_call rfl rfl Try.call19 (c_iIntSubK f146.sv os_144.sv (by rw [Int.natAbs_natCast]; omega) (by rw [Int.natAbs_natCast]; omega)) (fun v147 w147 p147 => ?_)
  obtain ⟨s147, rfl, os_147, c147⟩ := p147
  have zw147 := c147.size
  have s148 : Chg 0 0 wl37 w147 := ((((d81.t cb134).t c139).t c144).t c147)
  refine wl_nil ?_
  refine dx_next s148 ?_
  refine dx_eff 12 rfl (by kernel_rfl) ?_
  have f152 := ((fb134.ext c139).ext c144).ext c147
  refine sx_store (vs := [.bool (ng ((((((shrs (x6) (ones (1 + m15))).getD 0 0)).natAbs : Int)) + -(((((shrs (x6) (ones (1 + m15))).getD ((1 + m15) - 1) 0)).natAbs : Int)))), s147]) rfl rfl f152 rfl Try.sizeOf25 (nbl rfl) (one_cons rfl (one_cons os_147.one one_nil)) (fun w149 sw149 fw149 cw149 => ?_)
  have zw149 := cw149.size
  have gw149 : Blk w149 b134 [.bool (ng ((((((shrs (x6) (ones (1 + m15))).getD 0 0)).natAbs : Int)) + -(((((shrs (x6) (ones (1 + m15))).getD ((1 + m15) - 1) 0)).natAbs : Int)))), s147] 25 := fw149
  have q154 := Chg.step (l := 0) (h := 0) (Chg.zero (l := 0) (h := 0) ((((d81.t cb134).t c139).t c144).t c147)) cw149 (by omega)
  have s153 : Chg 0 0 wl37 w149 := q154
  refine wl_nil ?_
  refine dx_next s153 ?_
  refine dx_done (by kernel_rfl) ?_
  have f155 := os_147.chg cw149 (by omega)
  have q156 := Chg.step (l := 0) (h := 0) (Chg.zero (l := 0) (h := 0) ((((d81.t cb134).t c139).t c144).t c147)) cw149 (by omega)
  exact q_n (kw_sub (Sub.c 8 rfl .nil) (kc67 _ _ ⟨b134, s147, w144.heap.size, w147.heap.size, rfl, q156, gw149, f155, by omega, by omega, by omega⟩))
 rintro fr w'67 ⟨gb67x0, gs67x1, gl67x1, gu67x1, rfl, cw'67, xgb67x0, xgs67x1, ygb67x0, ygl67x1, dgl67x1xgb67x0⟩
 have zw'67 := cw'67.size
 refine sx_seq fun K157 k157 => ?_
 have hdl : (dg (((((((shrs (x6) (ones (1 + m15))).getD 0 0)).natAbs : Int)) + -(((((shrs (x6) (ones (1 + m15))).getD ((1 + m15) - 1) 0)).natAbs : Int)))).natAbs).length ≤ 9 := by
  have h9 := len_addI (((shrs x6 (ones (1 + m15))).getD 0 0).natAbs : Int) (-(((shrs x6 (ones (1 + m15))).getD ((1 + m15) - 1) 0).natAbs : Int))
  rw [Int.natAbs_neg, Int.natAbs_natCast, Int.natAbs_natCast] at h9; omega
 have f161 := (((f23.ext d27).ext c29).ext c33).ext cwl37
 have f162 := f161.ext cw'67
 have f166 := (((f25.ext d27).ext c29).ext c33).ext cwl37
 have f167 := f166.ext cw'67
 have f169 := (f32.ext c33).ext cwl37
 have f170 := f169.ext cw'67
 refine dx_region (fun w' => Chg 0 0 w'67 w') (by kernel_rfl) (Chg.zero (Chg.drew _)) ?_
 have d171 := Chg.drew w'67
 have s171 : Chg 0 0 w'67 (World.drew w'67) := Chg.zero (Chg.drew _)
 have y171 : (World.drew w'67).heap.size = w'67.heap.size := rfl
 generalize World.drew w'67 = w171 at *
 have zw171 := d171.size
 refine dt 0 rfl rfl rfl rfl s171 (fun _ hS => px_load rfl ((xgb67x0.chg hS (by omega)).loadA (vs := [.bool (ng ((((((shrs (x6) (ones (1 + m15))).getD 0 0)).natAbs : Int)) + -(((((shrs (x6) (ones (1 + m15))).getD ((1 + m15) - 1) 0)).natAbs : Int)))), gs67x1]) (look_lit rfl) Try.isAgg25 Try.sizeOf25)) ?_
 refine dx_eff 1 rfl (by kernel_rfl) ?_
 refine sx_call rfl rfl Try.call20 (c_iIntOf (by omega)) (fun v172 w172 p172 => ?_)
 obtain ⟨s172, rfl, os_172, c172⟩ := p172
 have zw172 := c172.size
 have s173 : Chg 0 0 w'67 w172 := (d171.t c172)
 refine wl_nil ?_
 refine dx_next s173 ?_
 refine dx_eff 2 rfl (by kernel_rfl) ?_
 have f175 := (xgs67x1.ext d171).ext c172
 refine sx_call rfl rfl Try.call8 (c_iIntCmpK f175.sv os_172.sv (by first | omega | (rw [Int.natAbs_natCast]; omega)) (by first | omega | (rw [Int.natAbs_natCast]; omega) | exact Nat.le_trans (dg_len_le (k := 1) (by decide)) (by decide))) (fun v176 w176 p176 => ?_)
 obtain ⟨rfl, c176⟩ := p176
 have zw176 := c176.size
 have s177 : Chg 0 0 w'67 w176 := ((d171.t c172).t c176)
 refine wl_nil ?_
 refine dx_next s177 ?_
 refine dt 3 rfl rfl rfl rfl s177 (fun _ hS => px_le rfl rfl) ?_
 refine dt 4 rfl rfl rfl rfl s177 (fun _ hS => px_assign rfl) ?_
 refine dx_done (by kernel_rfl) ?_
 refine q_n (k157 _ _ ?_)
 refine sx_retc ?_
 refine sx_ret1 Try.results4 rfl ?_
 have q178 := Chg.step (l := 0) (h := 0) (Chg.zero (l := 0) (h := 0) (c6.t cb7)) cw9 (by omega)
 have q179 := Chg.step (l := 0) (h := 0) q178 (((((((((c15.t c20).t d27).t c29).t c33).t cwl37).t cw'67).t d171).t c172).t c176) (by omega)
 exact ⟨congrArg Value.bool (decide_eq_true (cmpI_le0 (even_near (by omega)))), q179⟩

end Go.Proofs.Ytjkeefmpjocilaa
