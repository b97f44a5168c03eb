/- Contracts of functions of the program: what each call returns, and that it changes nothing that was. Conditions: as each says. -/
import Derived.Test.YtjkeefmpjocilaaDoorTy
import Derived.Test.YtjkeefmpjocilaaDoorNatI
import Derived.Test.YtjkeefmpjocilaaDoorNatQ
import Derived.Test.YtjkeefmpjocilaaDoorSxW
import Derived.Test.YtjkeefmpjocilaaDoorSxQ
import Derived.Test.YtjkeefmpjocilaaDoorSxR
import Derived.Test.YtjkeefmpjocilaaDoorNatJ
import Derived.Test.YtjkeefmpjocilaaDoorSxP
import Derived.Test.YtjkeefmpjocilaaDoorL0
import Derived.Test.YtjkeefmpjocilaaDoorL2
import Derived.Test.YtjkeefmpjocilaaDoorNatSk
set_option linter.unusedVariables false
set_option linter.unusedSimpArgs false
namespace Go.Proofs.YtjkeefmpjocilaaDoor
open Go Go.RowKit
set_option maxRecDepth 100000
theorem c_iShares {w : World} {va : Value} {lva uva : Nat} {x : Int} {vw : Value} {lvw uvw : Nat} {ws : List Int} (hva : Sl w lva uva va (dg x.natAbs)) (hvw : Sl w lvw uvw vw (ws)) (hW : WOk ws) (hx : (dg x.natAbs).length ≤ 8) (hor : ws.length ≤ 19 ∨ SortTo (sR x.natAbs ws) (List.range ws.length) ws.length) :
  Ret Tryd.prog 6 [.agg #[.bool (ng x), va], vw] w fun v w' => ∃ s us, v = .tuple #[s, .bool (true)] ∧ SgS w' (0) (w'.heap.size) s (shrs x ws) us ∧ ((∃ ix : List Nat, ix.Perm (List.range (ws).length) ∧ SortTo (sR (x).natAbs ws) ix (ws).length)) ∧ Chg 0 0 w w' := by
 have hva0 := hva.fit
 have hvw0 := hvw.fit
 have hn1 := hW.1
 have hn2 := hW.2.1
 have htl := tW_len hW
 have hmt : ∀ (jx : List Nat) (j i : Nat), i < ws.length → (dg (mgT x.natAbs ws jx j i)).length ≤ 9 := fun jx j i hi => by
  have h1 := sQ_le (X := x.natAbs) hW hi
  have h2 := lt_of_dg_len hx
  exact dg_len_le (Nat.lt_of_le_of_lt (show mgT x.natAbs ws jx j i ≤ x.natAbs + 1 by unfold mgT; split <;> omega) (by simp only [Bs] at *; omega))
 refine sx_enter Tryd.func6 rfl Tryd.ntmps6 (nbl rfl) ?_
 refine sx_seq fun K1 k1 => sx_region ?_
 refine sx_box [.bool (ng x), va] rfl rfl rfl (fun b2 w3 eb2 sb2 fb2 cb2 => ?_)
 have zw3 := cb2.size
 refine av rfl rfl (av rfl rfl (wl_nil (q_n (k1 _ _ ?_))))
 refine sx_seq fun K4 k4 => ?_
 refine sx_seq fun K5 k5 => sx_region ?_
 refine mv rfl rfl ?_
 have f6 := hvw0.ext cb2
 refine sx_call rfl rfl Tryd.call17 (c_iWeightsOk f6 (by omega)) (fun v7 w7 p7 => ?_)
 obtain ⟨rfl, c7⟩ := p7
 have zw7 := c7.size
 refine sp rfl (px_notP rfl) ?_
 refine mv rfl rfl ?_
 have h61 : ¬ (¬ (WOk ws)) := fun h => h hW
 refine sx_tmpPF (t := 25) rfl h61 ?_
 refine sx_guardT rfl rfl rfl ?_
 have f8 := fb2.ext c7
 refine sp rfl (px_load rfl (f8.loadA (vs := [.bool (ng x), va]) (look_lit rfl) Tryd.isAgg25 Tryd.sizeOf25)) ?_
 refine sx_guardT rfl rfl rfl ?_
 have f9 := hva0.ext cb2
 have f10 := f9.ext c7
 refine sx_call rfl rfl Tryd.call18 (c_iIntOk f10 (by omega)) (fun v11 w11 p11 => ?_)
 obtain ⟨rfl, c11⟩ := p11
 have zw11 := c11.size
 refine sx_guardT rfl rfl rfl ?_
 refine sp rfl (px_notP rfl) ?_
 refine sp rfl (px_pick rfl rfl) ?_
 refine wl_nil (q_n (k5 _ _ ?_))
 have h61x1 : ¬ (¬ (IOk (ng x) (dg x.natAbs))) := fun h => h (IOk_ng (by omega))
 refine sx_condPF rfl h61x1 ?_
 refine sx_skip ?_
 refine q_n (k4 _ _ ?_)
 refine sx_seq fun K12 k12 => sx_region ?_
 refine mv rfl rfl ?_
 have f14 := (f6.ext c7).ext c11
 refine sx_call rfl rfl Tryd.call20 (c_sumInts f14 (hW.2.1) (hW.2.2.1)) (fun v15 w15 p15 => ?_)
 obtain ⟨rfl, c15⟩ := p15
 have zw15 := c15.size
 refine sx_call rfl rfl Tryd.call19 (c_iNatOf (by have := w_sum hW; omega)) (fun v16 w16 p16 => ?_)
 obtain ⟨s16, rfl, os_16, c16⟩ := p16
 have zw16 := c16.size
 refine av rfl rfl (wl_nil (q_n (k12 _ _ ?_)))
 refine sx_sub (Sub.c 1 rfl (.c 2 rfl (.c 4 rfl (.c 5 rfl (.c 6 rfl .nil))))) ?_
 refine sx_seq fun K17 k17 => sx_region ?_
 refine sp rfl (px_field rfl xfld25x1) ?_
 have f20 := ((f8.ext c11).ext c15).ext c16
 refine sp rfl (px_load rfl (f20.load1 rfl Tryd.isAgg23)) ?_
 have f23 := ((f10.ext c11).ext c15).ext c16
 refine sx_call rfl rfl Tryd.call21 (c_natCopy f23 (by omega)) (fun v24 w24 p24 => ?_)
 obtain ⟨s24, rfl, os_24, c24⟩ := p24
 have zw24 := c24.size
 refine av rfl rfl (wl_nil (q_n (k17 _ _ ?_)))
 refine sx_seq fun K25 k25 => sx_region ?_
 refine mv rfl rfl ?_
 have f28 := ((f14.ext c15).ext c16).ext c24
 refine sp rfl (px_len rfl Tryd.underlying23 f28) ?_
 refine sx_make (c := (ws).length) rfl xelt55 (rfl) (rfl) (by omega) (by unfold maxLen; omega) (fun s29 ws29 fs29 cs29 ls29 => ?_)
 have zws29 := cs29.size
 refine av rfl rfl (wl_nil (q_n (k25 _ _ ?_)))
 refine sx_seq fun K30 k30 => ?_
 obtain ⟨ms0, hms0, hml0⟩ := Own.some fs29
 refine sx_region ?_
 refine sx_lit0 rfl xelt56 (fun s31 ws31 ss31 fs31 cs31 => ?_)
 have zws31 := cs31.size
 refine av rfl rfl (wl_nil (q_n (k30 _ _ ?_)))
 refine sx_sub (Sub.c 1 rfl (.c 2 rfl (.c 4 rfl (.c 5 rfl (.c 6 rfl (.c 7 rfl (.c 8 rfl (.c 9 rfl .nil)))))))) ?_
 refine sx_seq fun K32 k32 => ?_
 refine sx_seq fun K33 k33 => sx_region ?_
 refine mv rfl rfl ?_
 have f34 := f28.ext cs29
 have f35 := f34.ext cs31
 refine sp rfl (px_len rfl Tryd.underlying23 f35) ?_
 refine mv rfl rfl (wl_nil (q_n (k33 _ _ ?_)))
 refine sx_block ?_
 have f38 := (f20.ext c24).ext cs29
 have f39 := f38.ext cs31
 have f41 := (os_16.ext c24).ext cs29
 have f42 := f41.ext cs31
 have f43 := hms0.ext cs31
 have f44 := os_24.ext cs29
 have f45 := f44.ext cs31
 refine sx_loop (fun mm aa w' => ∃ (k : Nat) (ms : List Value) (vp : Value) (gl : Nat) (gh : Nat) (ps : List Value) (lf : Value) (ll : Nat) (lu : Nat), Agr 124 [(1, vw), (2, .pointer (some ⟨b2, 0, none⟩)), (6, v16), (7, lf), (8, s29), (9, vp), (41, .int .i64 (↑((ws).length))), (42, .int .i64 ↑k)] aa ∧ Chg 0 0 w w' ∧ Blk w' b2 [.bool (ng x), va] 25 ∧ Own w' w15.heap.size w16.heap.size v16 intT ((dg (((ws).sum)).toNat).length) 1 ((dg (((ws).sum)).toNat).map (Value.int .i64)) ∧ Own w' w24.heap.size ws29.heap.size s29 23 ((ws).length) 1 (ms) ∧ Own w' gl gh vp 65 k 2 (ptCells (List.range k) ps) ∧ Own w' ll lu lf intT ((dg (x.natAbs - upto (sQ x.natAbs ws) k)).length) 1 ((dg (x.natAbs - upto (sQ x.natAbs ws) k)).map (Value.int .i64)) ∧ (mm = ws.length - k) ∧ (k ≤ ws.length) ∧ (ms.length = ws.length) ∧ (ps.length = k) ∧ (ws29.heap.size ≤ gl ∧ gl ≤ gh ∧ gh ≤ w'.heap.size ∧ ws29.heap.size ≤ w'.heap.size) ∧ ((lu ≤ w24.heap.size ∨ ws29.heap.size ≤ ll) ∧ (lu ≤ gl ∨ gh ≤ ll) ∧ lu ≤ w'.heap.size ∧ w.heap.size ≤ ll) ∧ (∀ i, i < k → Ns2 w' w24.heap.size ws29.heap.size gl gh w'.heap.size (ms.getD i vz) (dg (sQ x.natAbs ws i))) ∧ (∀ i, i < k → Ns2 w' w24.heap.size ws29.heap.size gl gh w'.heap.size (ps.getD i vz) (dg (sR x.natAbs ws i)))) (ws.length) (fun a ha => ⟨0, ms0, s31, ws29.heap.size, ws31.heap.size, [], v24, w16.heap.size, w24.heap.size, ha.sub (Sub.c 1 rfl (.c 2 rfl (.c 6 rfl (.c 7 rfl (.c 8 rfl (.c 9 rfl (.c 41 rfl (.c 42 (look_int (t := 42) rfl (by first | omega | simp)) .nil)))))))), (((((((cb2.t c7).t c11).t c15).t c16).t c24).t cs29).t cs31), f39, f42, f43, fs31, f45, rfl, by omega, by omega, rfl, by omega, by omega, fun i hi => by omega, fun i hi => by omega⟩) ?_
 rintro mm aa wl36 ⟨k, ms, vp, gl, gh, ps, lf, ll, lu, hAwl36, cwl36, hb_b2, hs_v16, hs_s29, hs_vp, hs_lf, hm, hk, hml, hpl, hgg, hlf, hq, hrr⟩
 refine (show cw Tryd.prog 124 _ _ _ wl36 from ?_) aa hAwl36
 clear hAwl36
 have zwl36 := cwl36.size
 have lt46 := hb_b2.lt
 refine sx_seq fun K47 k47 => sx_region ?_
 refine sp rfl (px_lt rfl rfl) ?_
 refine wl_nil (q_n (k47 _ _ ?_))
 refine sx_seq fun K48 k48 => ?_
 refine sx_condP rfl (fun h68 => ?_) (fun h68 => ?_)
 ·
  refine sx_skip ?_
  refine q_n (k48 _ _ ?_)
  refine sx_seq fun K49 k49 => ?_
  refine sx_block ?_
  refine sx_seq fun K50 k50 => sx_region ?_
  refine mv rfl rfl (av rfl rfl (wl_nil (q_n (k50 _ _ ?_))))
  refine sx_seq fun K51 k51 => ?_
  refine sx_seq fun K52 k52 => sx_region ?_
  refine sp rfl (px_load rfl (hb_b2.loadA (vs := [.bool (ng x), va]) (look_lit rfl) Tryd.isAgg25 Tryd.sizeOf25)) ?_
  refine mv rfl rfl (mv rfl rfl ?_)
  have f53 := hva0.ext cwl36
  have f54 := hvw0.ext cwl36
  refine sx_call rfl rfl Tryd.call22 (c_iFairShareK f53 f54 (by assumption) (by omega) (by omega)) (fun v55 w55 p55 => ?_)
  obtain ⟨s55, t55, ls55, us55, lt55, ut55, rfl, os_55, ot_55, hd55, hK55, c55⟩ := p55
  have zw55 := c55.size
  refine mv rfl rfl (sp rfl (px_ex2 rfl rfl) ?_)
  refine sp rfl (px_ex2 rfl rfl) ?_
  refine sx_alloc [.bool false, (.slice none 0 0), (.slice none 0 0)] rfl Tryd.zeroValue58 rfl (fun b56 w57 eb56 sb56 fb56 cb56 => ?_)
  have zw57 := cb56.size
  have f59 := ot_55.ext cb56
  have f60 := os_55.ext cb56
  refine sx_store (vs := [.bool (ng (fsN x ws k)), s55, t55]) rfl rfl fb56 rfl Tryd.sizeOf58 (nbl rfl) (one_cons rfl (one_cons f60.one (one_cons f59.one one_nil))) (fun w58 sw58 fw58 cw58 => ?_)
  have zw58 := cw58.size
  have gw58 : Blk w58 b56 [.bool (ng (fsN x ws k)), s55, t55] 58 := fw58
  refine av rfl rfl (wl_nil (q_n (k52 _ _ ?_)))
  refine sx_sub (Sub.c 1 rfl (.c 2 rfl (.c 6 rfl (.c 7 rfl (.c 8 rfl (.c 9 rfl (.c 10 rfl (.c 12 rfl (.c 41 rfl (.c 42 rfl .nil)))))))))) ?_
  refine sx_seq fun K61 k61 => sx_region ?_
  refine mv rfl rfl (sp rfl (px_not rfl) ?_)
  refine wl_nil (q_n (k61 _ _ ?_))
  refine sx_condF rfl ?_
  refine sx_skip ?_
  refine q_n (k51 _ _ ?_)
  refine sx_seq fun K62 k62 => ?_
  have hwl := wt_len hW k
  have hsq := sQ_le (X := x.natAbs) hW (i := k) (by omega)
  have f64 := (hb_b2.ext c55).ext cb56
  have f65 := f64.chg cw58 (by omega)
  have f67 := (f53.ext c55).ext cb56
  have f68 := f67.chg cw58 (by omega)
  have f70 := (f54.ext c55).ext cb56
  have f71 := f70.chg cw58 (by omega)
  have f73 := (hs_v16.ext c55).ext cb56
  have f74 := f73.chg cw58 (by omega)
  have f76 := (hs_s29.ext c55).ext cb56
  have f77 := f76.chg cw58 (by omega)
  have f79 := (hs_vp.ext c55).ext cb56
  have f80 := f79.chg cw58 (by omega)
  have f82 := (hs_lf.ext c55).ext cb56
  have f83 := f82.chg cw58 (by omega)
  have f84 := f60.chg cw58 (by omega)
  have f85 := f59.chg cw58 (by omega)
  refine dx_region (fun w' => Chg 0 0 w58 w') (by kernel_rfl) (Chg.zero (Chg.drew _)) ?_
  have d86 := Chg.drew w58
  have s86 : Chg 0 0 w58 (World.drew w58) := Chg.zero (Chg.drew _)
  have y86 : (World.drew w58).heap.size = w58.heap.size := rfl
  generalize World.drew w58 = w86 at *
  have zw86 := d86.size
  refine dt 0 rfl rfl rfl rfl s86 (fun _ hS => px_field rfl xfld25x1) ?_
  refine dt 1 rfl rfl rfl rfl s86 (fun _ hS => px_load rfl ((f65.chg hS (by omega)).load1 rfl Tryd.isAgg23)) ?_
  refine dt 2 rfl rfl rfl rfl s86 (fun _ hS => px_move rfl) ?_
  refine dt 3 rfl rfl rfl rfl s86 (fun _ hS => px_move rfl) ?_
  refine dt 4 rfl rfl rfl rfl s86 (fun _ hS => px_index1 (j := k) rfl rfl (by omega) Tryd.underlying23 Tryd.sizeOf3 ((f71).chg hS (by omega)) (by omega)) ?_
  refine dt 5 rfl rfl rfl rfl s86 (fun _ hS => px_load rfl (((f71).chg hS (by omega)).load1 (at_int (by omega)) Tryd.isAgg3)) ?_
  refine dt 8 rfl rfl rfl rfl s86 (fun _ hS => px_move rfl) ?_
  refine dx_eff 6 rfl (by kernel_rfl) ?_
  refine sx_call rfl rfl Tryd.call19 (c_iNatOf (by have := w_bd hW k; omega)) (fun v87 w87 p87 => ?_)
  obtain ⟨s87, rfl, os_87, c87⟩ := p87
  have zw87 := c87.size
  have s88 : Chg 0 0 w58 w87 := (d86.t c87)
  refine wl_nil ?_
  refine dx_next s88 ?_
  refine dx_eff 7 rfl (by kernel_rfl) ?_
  have f90 := (f68.ext d86).ext c87
  refine sx_call rfl rfl Tryd.call24 (c_natMul f90 os_87.sv (by omega) (Nat.le_trans hwl (by decide))) (fun v91 w91 p91 => ?_)
  obtain ⟨s91, rfl, os_91, c91⟩ := p91
  have zw91 := c91.size
  have s92 : Chg 0 0 w58 w91 := ((d86.t c87).t c91)
  refine wl_nil ?_
  refine dx_next s92 ?_
  refine dx_eff 9 rfl (by kernel_rfl) ?_
  have f95 := ((f74.ext d86).ext c87).ext c91
  refine sx_call rfl rfl Tryd.call23 (c_natDiv os_91.sv f95.sv (Nat.le_trans (len_mul x.natAbs (wt ws k)) (by omega)) (Nat.le_trans htl (by decide)) (tW_pos hW)) (fun v96 w96 p96 => ?_)
  obtain ⟨s96, t96, rfl, os_96, ot_96, c96⟩ := p96
  have zw96 := c96.size
  have s97 : Chg 0 0 w58 w96 := (((d86.t c87).t c91).t c96)
  refine wl_nil ?_
  refine dx_next s97 ?_
  refine dt 10 rfl rfl rfl rfl s97 (fun _ hS => px_move rfl) ?_
  refine dt 11 rfl rfl rfl rfl s97 (fun _ hS => px_ex2 rfl rfl) ?_
  refine dt 12 rfl rfl rfl rfl s97 (fun _ hS => px_ex2 rfl rfl) ?_
  refine dt 13 rfl rfl rfl rfl s97 (fun _ hS => px_assign rfl) ?_
  refine dt 14 rfl rfl rfl rfl s97 (fun _ hS => px_assign rfl) ?_
  refine dx_done (by kernel_rfl) ?_
  refine q_n (k62 _ _ ?_)
  refine sx_sub (Sub.c 1 rfl (.c 2 rfl (.c 6 rfl (.c 7 rfl (.c 8 rfl (.c 9 rfl (.c 10 rfl (.c 13 rfl (.c 14 rfl (.c 41 rfl (.c 42 rfl .nil))))))))))) ?_
  refine sx_seq fun K98 k98 => sx_region ?_
  refine mv rfl rfl (mv rfl rfl (mv rfl rfl ?_))
  have f102 := (((f77.ext d86).ext c87).ext c91).ext c96
  refine sp rfl (px_index1 (j := k) rfl rfl (by omega) Tryd.underlying55 Tryd.sizeOf23 f102.sv (by omega)) ?_
  refine sx_storeO rfl rfl f102 (by first | omega | (simp only [List.length_map]; omega)) Tryd.sizeOf23 os_96.one (fun w103 sw103 fw103 cw103 => ?_)
  have zw103 := cw103.size
  refine wl_nil (q_n (k98 _ _ ?_))
  refine sx_sub (Sub.c 1 rfl (.c 2 rfl (.c 6 rfl (.c 7 rfl (.c 8 rfl (.c 9 rfl (.c 10 rfl (.c 13 rfl (.c 14 rfl (.c 41 rfl (.c 42 rfl .nil))))))))))) ?_
  refine sx_seq fun K104 k104 => sx_region ?_
  refine mv rfl rfl (mv rfl rfl ?_)
  have f109 := ((((f83.ext d86).ext c87).ext c91).ext c96).chg cw103 (by omega)
  have f110 := os_96.chg cw103 (by omega)
  refine sx_call rfl rfl Tryd.call25 (c_natSub f109.sv f110.sv (Nat.le_trans (len_le (Nat.sub_le _ _)) (by omega)) (Nat.le_trans (len_div _ _) (Nat.le_trans (len_mul x.natAbs (wt ws k)) (by omega))) (by have h9 : x.natAbs * (ws.getD k 0).toNat / ws.sum.toNat = sQ x.natAbs ws k := rfl; rw [h9]; omega)) (fun v111 w111 p111 => ?_)
  obtain ⟨s111, rfl, os_111, c111⟩ := p111
  have zw111 := c111.size
  refine av rfl rfl (wl_nil (q_n (k104 _ _ ?_)))
  have f112 := ot_96.chg cw103 (by omega)
  have f113 := f112.ext c111
  have honr := f113.one
  refine sx_region ?_
  refine mv rfl rfl (mv rfl rfl (mv rfl rfl (sp rfl (px_build rfl (xbld65x0x1 rfl f113.one _)) ?_)))
  refine sx_lit1A2 rfl xelt56 rfl (fun s114 ws114 ss114 fs114 cs114 => ?_)
  have zws114 := cs114.size
  have f120 := ((((f80.ext d86).ext c87).ext c91).ext c96).chg cw103 (by omega)
  have f122 := (f120.ext c111).ext cs114
  refine sx_append2 rfl xelt56 rfl rfl f122 fs114.sv (by omega) (by intro u hu; simp only [List.mem_cons, List.not_mem_nil, or_false] at hu; rcases hu with rfl | rfl; rfl; exact honr) (by omega) (by omega) (by unfold maxLen; omega) (fun a115 w115 alw115 ahw115 adw115 fw115 cw115 => ?_)
  have zw115 := cw115.size
  refine av rfl rfl (wl_nil ?_)
  refine q_bn (q_n (k49 _ _ ?_))
  refine sx_sub (Sub.c 1 rfl (.c 2 rfl (.c 6 rfl (.c 7 rfl (.c 8 rfl (.c 9 rfl (.c 41 rfl (.c 42 rfl .nil)))))))) ?_
  refine sx_region ?_
  refine sp rfl (px_add rfl rfl (by omega)) ?_
  refine mv rfl rfl (wl_nil ?_)
  have f124 := (f110.ext c111).ext cs114
  have f125 := f124.chg cw115 (by omega)
  have f126 := f113.ext cs114
  have f127 := f126.chg cw115 (by omega)
  have q128 := Chg.step (l := 0) (h := 0) (Chg.zero (l := 0) (h := 0) ((cwl36.t c55).t cb56)) cw58 (by omega)
  have q129 := Chg.step (l := 0) (h := 0) q128 (((d86.t c87).t c91).t c96) (by omega)
  have q130 := Chg.step (l := 0) (h := 0) q129 cw103 (by omega)
  have q131 := Chg.step (l := 0) (h := 0) q130 (c111.t cs114) (by omega)
  have q132 := Chg.step (l := 0) (h := 0) q131 cw115 (by omega)
  have f137 := ((((f65.ext d86).ext c87).ext c91).ext c96).chg cw103 (by omega)
  have f139 := (f137.ext c111).ext cs114
  have f140 := f139.chg cw115 (by omega)
  have f142 := (f95.ext c96).chg cw103 (by omega)
  have f144 := (f142.ext c111).ext cs114
  have f145 := f144.chg cw115 (by omega)
  have f147 := (fw103.ext c111).ext cs114
  have f148 := f147.chg cw115 (by omega)
  have f149 := os_111.ext cs114
  have f150 := f149.chg cw115 (by omega)
  exact fun a ha => ⟨_, by omega, (k + 1), ((ms).set k (s96)), a115, alw115, ahw115, (ps ++ [t96]), v111, w103.heap.size, w111.heap.size, ha.sub (Sub.c 1 rfl (.c 2 rfl (.c 6 rfl (.c 7 rfl (.c 8 rfl (.c 9 rfl (.c 41 rfl (.c 42 (look_int (t := 42) rfl (by first | omega | simp)) .nil)))))))), q132, f140, f145, f148, (by rw [pt_more hpl]; exact fw115), (by rw [← sub_up]; exact f150), rfl, by omega, by simp only [List.length_set]; exact hml, by simp only [List.length_append, List.length_singleton]; omega, by omega, by omega, all_set (P := (fun i v => Ns2 w115 w24.heap.size ws29.heap.size alw115 ahw115 w115.heap.size v (dg (sQ x.natAbs ws i)))) (fun i hi => (((((((((((((hq i hi).ext c55).ext cb56).far cw58 (by omega)).ext d86).ext c87).ext c91).ext c96).chg1 cw103).ext c111).ext cs114).chg2 cw115)).re (by omega) (by omega)) (Ns2.of f125.sv (by omega) (by omega) (by omega)) (by omega), all_snoc (P := (fun i v => Ns2 w115 w24.heap.size ws29.heap.size alw115 ahw115 w115.heap.size v (dg (sR x.natAbs ws i)))) (fun i hi => (((((((((((((hrr i hi).ext c55).ext cb56).far cw58 (by omega)).ext d86).ext c87).ext c91).ext c96).chg1 cw103).ext c111).ext cs114).chg2 cw115)).re (by omega) (by omega)) (Ns2.of f127.sv (by omega) (by omega) (by omega)) hpl⟩
 refine sx_exit ?_
 refine q_e (q_e (q_bx (q_n (k32 _ _ ?_))))
 refine sx_seq fun K151 k151 => ?_
 have ek : k = ws.length := by omega
 have hpt : PtO wl36 gl gh wl36.heap.size vp 65 (List.range k) ps (sR x.natAbs ws) := ⟨by rw [List.length_range]; exact hs_vp, fun i hi => by have := List.mem_range.1 hi; omega, fun i hi => (((hrr i (by omega))).to2).up (by omega)⟩
 refine sx_region ?_
 refine mv rfl rfl (sx_call rfl rfl Tryd.call26 (c_sortBy hpt (by rw [List.length_range]; omega) (by rw [List.length_range, ek]; exact hor) (by simp) (sR_len hW)) (fun v152 w152 p152 => ?_))
 obtain ⟨v2152, ix2152, rfl, ov2_152, hP2152, hS2152, c152⟩ := p152
 have zw152 := c152.size
 have hPp : (ix2152).Perm (List.range ws.length) := by have h9 := hP2152; rw [List.length_range, ek] at h9; exact h9
 have hSs : SortTo (sR x.natAbs ws) ix2152 ws.length := by have h9 := hS2152; rw [List.length_range, ek] at h9; exact h9
 have hil : (ix2152).length = ws.length := by rw [hPp.length_eq, List.length_range]
 refine av rfl rfl (wl_nil (q_n (k151 _ _ ?_)))
 refine sx_seq fun K153 k153 => sx_region ?_
 refine mv rfl rfl ?_
 have f154 := hs_lf.ext c152
 refine sx_call rfl rfl Tryd.call31 (c_iNatIntS f154.sv (by have h1 := mis_lt (X := x.natAbs) hW; unfold mis at h1; rw [ek]; omega)) (fun v155 w155 p155 => ?_)
 obtain ⟨rfl, c155⟩ := p155
 have zw155 := c155.size
 refine mv rfl rfl (sp rfl (px_ex2 rfl rfl) ?_)
 refine sp rfl (px_ex2 rfl rfl) ?_
 refine av rfl rfl (av rfl rfl (wl_nil (q_n (k153 _ _ ?_))))
 refine sx_sub (Sub.c 2 rfl (.c 8 rfl (.c 9 rfl (.c 15 rfl .nil)))) ?_
 refine sx_seq fun K156 k156 => ?_
 refine sx_seq fun K157 k157 => ?_
 have f158 := ov2_152.ext c155
 have hmk : x.natAbs - upto (sQ x.natAbs ws) k < ws.length := by have h1 := mis_lt (X := x.natAbs) hW; unfold mis at h1; rw [ek]; exact h1
 refine sx_region ?_
 refine mv rfl rfl (mv rfl rfl (sp rfl (px_sliceTo (h := (x.natAbs - upto (sQ x.natAbs ws) k)) rfl rfl (by omega) Tryd.underlying56 Tryd.sizeOf65 (f158.own).sv (by omega)) ?_))
 refine sp rfl (px_len rfl Tryd.underlying56 ((f158.own).take (h := (x.natAbs - upto (sQ x.natAbs ws) k)) (by omega)).sv) ?_
 refine mv rfl rfl (wl_nil (q_n (k157 _ _ ?_)))
 refine sx_block ?_
 have f161 := (hs_s29.ext c152).ext c155
 refine sx_loop (fun mm aa w' => ∃ (kk : Nat) (ms2 : List Value), Agr 124 [(2, .pointer (some ⟨b2, 0, none⟩)), (8, s29), (90, (vtake v152 (x.natAbs - upto (sQ x.natAbs ws) k))), (91, .int .i64 (↑(x.natAbs - upto (sQ x.natAbs ws) k))), (92, .int .i64 ↑kk)] aa ∧ Chg w24.heap.size ws29.heap.size w155 w' ∧ Own w' w24.heap.size ws29.heap.size s29 23 ((ws).length) 1 (ms2) ∧ (mm = x.natAbs - upto (sQ x.natAbs ws) k - kk) ∧ (kk ≤ x.natAbs - upto (sQ x.natAbs ws) k) ∧ (ms2.length = ws.length) ∧ (∀ i, i < ws.length → Nst w' w24.heap.size ws29.heap.size w'.heap.size (ms2.getD i vz) (dg (mgT x.natAbs ws ix2152 kk i)))) (_) (fun a ha => ⟨0, ms, ha.sub (Sub.c 2 rfl (.c 8 rfl (.c 90 rfl (.c 91 rfl (.c 92 (look_int (t := 92) rfl (by first | omega | simp)) .nil))))), Chg.refl _ _ _, f161, rfl, by omega, hml, fun i hi => by rw [mgT_zero]; exact (((((hq i (by omega)).ext c152).ext c155)).to1).up (by omega)⟩) ?_
 rintro mm aa wl159 ⟨kk, ms2, hAwl159, cwl159, hs_s29, hm, hkk, hml2, hq2⟩
 refine (show cw Tryd.prog 124 _ _ _ wl159 from ?_) aa hAwl159
 clear hAwl159
 have zwl159 := cwl159.size
 refine sx_seq fun K162 k162 => sx_region ?_
 refine sp rfl (px_lt rfl rfl) ?_
 refine wl_nil (q_n (k162 _ _ ?_))
 refine sx_seq fun K163 k163 => ?_
 refine sx_condP rfl (fun h81 => ?_) (fun h81 => ?_)
 ·
  have hak := perm_lt hPp (show kk < _ by omega)
  refine sx_skip ?_
  refine q_n (k163 _ _ ?_)
  refine sx_seq fun K164 k164 => ?_
  refine sx_block ?_
  refine sx_seq fun K165 k165 => sx_region ?_
  have f166 := ((f158.own).take (h := (x.natAbs - upto (sQ x.natAbs ws) k)) (by omega)).chg cwl159 (by omega)
  refine sp rfl (px_indexK (j := kk) rfl rfl (by omega) Tryd.underlying56 Tryd.sizeOf65 f166.sv (by omega)) ?_
  refine sp rfl (px_load rfl (f166.sv.loadA (pt_lookT (by omega) (by omega)) Tryd.isAgg65 Tryd.sizeOf65)) ?_
  refine sx_alloc [.int .i64 0, (.slice none 0 0)] rfl Tryd.zeroValue65 rfl (fun b167 w168 eb167 sb167 fb167 cb167 => ?_)
  have zw168 := cb167.size
  refine sx_store (vs := [.int .i64 (((ix2152.getD kk 0) : Nat) : Int), (ps.getD (ix2152.getD kk 0) vz)]) rfl rfl fb167 rfl Tryd.sizeOf65 (nbl rfl) (one_cons rfl (one_cons (f158.rest (j := kk) (by omega)).one one_nil)) (fun w169 sw169 fw169 cw169 => ?_)
  have zw169 := cw169.size
  have gw169 : Blk w169 b167 [.int .i64 (((ix2152.getD kk 0) : Nat) : Int), (ps.getD (ix2152.getD kk 0) vz)] 65 := fw169
  refine wl_nil (q_n (k165 _ _ ?_))
  have f172 := ((hb_b2.ext c152).ext c155).chg cwl159 (by omega)
  have f173 := f172.ext cb167
  have f174 := f173.chg cw169 (by omega)
  have f175 := hva0.ext cwl36
  have f178 := ((f175.ext c152).ext c155).chg cwl159 (by omega)
  have f179 := f178.ext cb167
  have f180 := f179.chg cw169 (by omega)
  have f181 := hvw0.ext cwl36
  have f184 := ((f181.ext c152).ext c155).chg cwl159 (by omega)
  have f185 := f184.ext cb167
  have f186 := f185.chg cw169 (by omega)
  have f189 := ((hs_v16.ext c152).ext c155).chg cwl159 (by omega)
  have f190 := f189.ext cb167
  have f191 := f190.chg cw169 (by omega)
  have f192 := hs_s29.ext cb167
  have f193 := f192.chg cw169 (by omega)
  have f194 := (f158.own).chg cwl159 (by omega)
  have f195 := f194.ext cb167
  have f196 := f195.chg cw169 (by omega)
  have f197 := f166.ext cb167
  have f198 := f197.chg cw169 (by omega)
  refine dx_region (fun w' => Chg w24.heap.size (ws29.heap.size) w169 w') (by kernel_rfl) (Chg.zero (Chg.drew _)) ?_
  have d199 := Chg.drew w169
  have s199 : Chg w24.heap.size (ws29.heap.size) w169 (World.drew w169) := Chg.zero (Chg.drew _)
  have y199 : (World.drew w169).heap.size = w169.heap.size := rfl
  generalize World.drew w169 = w199 at *
  have zw199 := d199.size
  refine dt 0 rfl rfl rfl rfl s199 (fun _ hS => px_move rfl) ?_
  refine dt 1 rfl rfl rfl rfl s199 (fun _ hS => px_field rfl xfld65x0) ?_
  refine dt 2 rfl rfl rfl rfl s199 (fun _ hS => px_load rfl ((gw169.chg hS (by omega)).load1 rfl Tryd.isAgg3)) ?_
  refine dt 3 rfl rfl rfl rfl s199 (fun _ hS => px_move rfl) ?_
  refine dt 4 rfl rfl rfl rfl s199 (fun _ hS => px_field rfl xfld65x0) ?_
  refine dt 5 rfl rfl rfl rfl s199 (fun _ hS => px_load rfl ((gw169.chg hS (by omega)).load1 rfl Tryd.isAgg3)) ?_
  refine dt 6 rfl rfl rfl rfl s199 (fun _ hS => px_index1w (j := (ix2152.getD kk 0)) rfl rfl (by omega) Tryd.underlying55 Tryd.sizeOf23 f193.sv (by omega)) ?_
  refine dx_eff2 7 8 rfl rfl (by kernel_rfl) ?_ ?_
  ·
   have f200 := f193.ext d199
   refine sp rfl (px_load rfl (f200.sv.load1 (vs_at (by omega)) Tryd.isAgg23)) ?_
   have s201 : Chg w24.heap.size (ws29.heap.size) w169 w199 := (Chg.zero (l := w24.heap.size) (h := (ws29.heap.size)) (d199))
   refine wl_nil ?_
   refine dx_next s201 ?_
   refine dx_eff 8 rfl (by kernel_rfl) ?_
   refine sx_lit1 rfl xelt23 rfl rfl (fun s202 ws202 ss202 fs202 cs202 => ?_)
   have ns202 := Own.norm (f := (Value.int .i64)) (zs := [1]) fs202
   have zws202 := cs202.size
   have s203 : Chg w24.heap.size (ws29.heap.size) w169 ws202 := (Chg.zero (l := w24.heap.size) (h := (ws29.heap.size)) (d199.t cs202))
   refine wl_nil ?_
   refine dx_next s203 ?_
   refine dx_eff 9 rfl (by kernel_rfl) ?_
   have f204 := (((((hq2 (ix2152.getD kk 0) (by omega)).ext cb167).far cw169 (by omega)).ext d199)).fit.ext cs202
   refine sx_call rfl rfl Tryd.call32 (c_natAdd1 f204 ns202.sv (Nat.le_trans (hmt _ _ _ hak) (by decide)) (rfl)) (fun v205 w205 p205 => ?_)
   obtain ⟨s205, rfl, os_205, c205⟩ := p205
   have zw205 := c205.size
   have s206 : Chg w24.heap.size (ws29.heap.size) w169 w205 := (Chg.zero (l := w24.heap.size) (h := (ws29.heap.size)) ((d199.t cs202).t c205))
   refine wl_nil ?_
   refine dx_next s206 ?_
   refine dt 10 rfl rfl rfl rfl s206 (fun _ hS => px_index1w (j := (ix2152.getD kk 0)) rfl rfl (by omega) Tryd.underlying55 Tryd.sizeOf23 f193.sv (by omega)) ?_
   refine dx_eff 11 rfl (by kernel_rfl) ?_
   have f208 := f200.ext cs202
   have f209 := f208.ext c205
   refine sx_storeO rfl rfl f209 (by first | omega | (simp only [List.length_map]; omega)) Tryd.sizeOf23 os_205.one (fun w207 sw207 fw207 cw207 => ?_)
   have zw207 := cw207.size
   have q211 := Chg.step (l := w24.heap.size) (h := (ws29.heap.size)) (Chg.zero (l := w24.heap.size) (h := (ws29.heap.size)) ((d199.t cs202).t c205)) cw207 (by omega)
   have s210 : Chg w24.heap.size (ws29.heap.size) w169 w207 := q211
   refine wl_nil ?_
   refine dx_next s210 ?_
   refine dx_done (by kernel_rfl) ?_
   refine q_bn (q_n (k164 _ _ ?_))
   refine sx_sub (Sub.c 2 rfl (.c 8 rfl (.c 90 rfl (.c 91 rfl (.c 92 rfl .nil))))) ?_
   refine sx_region ?_
   refine sp rfl (px_add rfl rfl (by omega)) ?_
   refine mv rfl rfl (wl_nil ?_)
   have f212 := os_205.chg cw207 (by omega)
   have q213 := Chg.step (l := w24.heap.size) (h := ws29.heap.size) cwl159 cb167 (by omega)
   have q214 := Chg.step (l := w24.heap.size) (h := ws29.heap.size) q213 cw169 (by omega)
   have q215 := Chg.step (l := w24.heap.size) (h := ws29.heap.size) q214 ((d199.t cs202).t c205) (by omega)
   have q216 := Chg.step (l := w24.heap.size) (h := ws29.heap.size) q215 cw207 (by omega)
   exact fun a ha => ⟨_, by omega, (kk + 1), ((ms2).set (ix2152.getD kk 0) (v205)), ha.sub (Sub.c 2 rfl (.c 8 rfl (.c 90 rfl (.c 91 rfl (.c 92 (look_int (t := 92) rfl (by first | omega | simp)) .nil))))), q216, fw207, rfl, by omega, by simp only [List.length_set]; exact hml2, all_put (P := (fun i v => Nst wl159 w24.heap.size ws29.heap.size wl159.heap.size v (dg (mgT x.natAbs ws ix2152 kk i)))) (P' := (fun i v => Nst w207 w24.heap.size ws29.heap.size w207.heap.size v (dg (mgT x.natAbs ws ix2152 (kk + 1) i)))) hq2 (by rw [← mgT_more hPp (by omega)]; exact Nst.of f212.sv (by omega) (by omega)) (fun i v hi hne h => by rw [mgT_same (by omega) hne]; exact (((((((h.ext cb167).far cw169 (by omega)).ext d199).ext cs202).ext c205).chg cw207)).up (by omega)) (by omega)⟩
  refine sx_lit1 rfl xelt23 rfl rfl (fun s217 ws217 ss217 fs217 cs217 => ?_)
  have ns217 := Own.norm (f := (Value.int .i64)) (zs := [1]) fs217
  have zws217 := cs217.size
  have s218 : Chg w24.heap.size (ws29.heap.size) w169 ws217 := (Chg.zero (l := w24.heap.size) (h := (ws29.heap.size)) (d199.t cs217))
  refine wl_nil ?_
  refine dx_next s218 ?_
  refine dx_eff 7 rfl (by kernel_rfl) ?_
  have f220 := (f193.ext d199).ext cs217
  refine sp rfl (px_load rfl (f220.sv.load1 (vs_at (by omega)) Tryd.isAgg23)) ?_
  have s221 : Chg w24.heap.size (ws29.heap.size) w169 ws217 := (Chg.zero (l := w24.heap.size) (h := (ws29.heap.size)) (d199.t cs217))
  refine wl_nil ?_
  refine dx_next s221 ?_
  refine dx_eff 9 rfl (by kernel_rfl) ?_
  refine sx_call rfl rfl Tryd.call32 (c_natAdd1 ((((((hq2 (ix2152.getD kk 0) (by omega)).ext cb167).far cw169 (by omega)).ext d199).ext cs217)).fit ns217.sv (Nat.le_trans (hmt _ _ _ hak) (by decide)) (rfl)) (fun v222 w222 p222 => ?_)
  obtain ⟨s222, rfl, os_222, c222⟩ := p222
  have zw222 := c222.size
  have s223 : Chg w24.heap.size (ws29.heap.size) w169 w222 := (Chg.zero (l := w24.heap.size) (h := (ws29.heap.size)) ((d199.t cs217).t c222))
  refine wl_nil ?_
  refine dx_next s223 ?_
  refine dt 10 rfl rfl rfl rfl s223 (fun _ hS => px_index1w (j := (ix2152.getD kk 0)) rfl rfl (by omega) Tryd.underlying55 Tryd.sizeOf23 f193.sv (by omega)) ?_
  refine dx_eff 11 rfl (by kernel_rfl) ?_
  have f225 := f220.ext c222
  refine sx_storeO rfl rfl f225 (by first | omega | (simp only [List.length_map]; omega)) Tryd.sizeOf23 os_222.one (fun w224 sw224 fw224 cw224 => ?_)
  have zw224 := cw224.size
  have q227 := Chg.step (l := w24.heap.size) (h := (ws29.heap.size)) (Chg.zero (l := w24.heap.size) (h := (ws29.heap.size)) ((d199.t cs217).t c222)) cw224 (by omega)
  have s226 : Chg w24.heap.size (ws29.heap.size) w169 w224 := q227
  refine wl_nil ?_
  refine dx_next s226 ?_
  refine dx_done (by kernel_rfl) ?_
  refine q_bn (q_n (k164 _ _ ?_))
  refine sx_sub (Sub.c 2 rfl (.c 8 rfl (.c 90 rfl (.c 91 rfl (.c 92 rfl .nil))))) ?_
  refine sx_region ?_
  refine sp rfl (px_add rfl rfl (by omega)) ?_
  refine mv rfl rfl (wl_nil ?_)
  have f228 := os_222.chg cw224 (by omega)
  have q229 := Chg.step (l := w24.heap.size) (h := ws29.heap.size) cwl159 cb167 (by omega)
  have q230 := Chg.step (l := w24.heap.size) (h := ws29.heap.size) q229 cw169 (by omega)
  have q231 := Chg.step (l := w24.heap.size) (h := ws29.heap.size) q230 ((d199.t cs217).t c222) (by omega)
  have q232 := Chg.step (l := w24.heap.size) (h := ws29.heap.size) q231 cw224 (by omega)
  exact fun a ha => ⟨_, by omega, (kk + 1), ((ms2).set (ix2152.getD kk 0) (v222)), ha.sub (Sub.c 2 rfl (.c 8 rfl (.c 90 rfl (.c 91 rfl (.c 92 (look_int (t := 92) rfl (by first | omega | simp)) .nil))))), q232, fw224, rfl, by omega, by simp only [List.length_set]; exact hml2, all_put (P := (fun i v => Nst wl159 w24.heap.size ws29.heap.size wl159.heap.size v (dg (mgT x.natAbs ws ix2152 kk i)))) (P' := (fun i v => Nst w224 w24.heap.size ws29.heap.size w224.heap.size v (dg (mgT x.natAbs ws ix2152 (kk + 1) i)))) hq2 (by rw [← mgT_more hPp (by omega)]; exact Nst.of f228.sv (by omega) (by omega)) (fun i v hi hne h => by rw [mgT_same (by omega) hne]; exact (((((((h.ext cb167).far cw169 (by omega)).ext d199).ext cs217).ext c222).chg cw224)).up (by omega)) (by omega)⟩
 refine sx_exit ?_
 refine q_e (q_e (q_bx (q_n (k156 _ _ ?_))))
 refine sx_seq fun K233 k233 => sx_region ?_
 refine sx_lit0 rfl xelt31 (fun s234 ws234 ss234 fs234 cs234 => ?_)
 have zws234 := cs234.size
 refine av rfl rfl (wl_nil (q_n (k233 _ _ ?_)))
 refine sx_seq fun K235 k235 => ?_
 refine sx_seq fun K236 k236 => sx_region ?_
 refine mv rfl rfl ?_
 have f237 := hs_s29.ext cs234
 refine sp rfl (px_len rfl Tryd.underlying55 f237.sv) ?_
 refine mv rfl rfl (wl_nil (q_n (k236 _ _ ?_)))
 refine sx_block ?_
 have emk : kk = x.natAbs - upto (sQ x.natAbs ws) k := by omega
 have hall : ∀ i, i < ws.length → mgT x.natAbs ws ix2152 kk i = mg x.natAbs ws i := fun i hi => by have h1 := mgT_all (X := x.natAbs) hW hPp hSs hi; rw [emk, ek]; exact h1
 refine sx_loop (fun mm aa w' => ∃ (kj : Nat) (os : Value), Agr 124 [(2, .pointer (some ⟨b2, 0, none⟩)), (8, s29), (19, os), (109, s29), (110, .int .i64 (↑((ws).length))), (111, .int .i64 ↑kj)] aa ∧ Chg wl159.heap.size ws234.heap.size ws234 w' ∧ Own w' wl159.heap.size w'.heap.size os 25 kj 2 (sgc (shr x ws) ms2 kj) ∧ (mm = ws.length - kj) ∧ (kj ≤ ws.length)) (_) (fun a ha => ⟨0, s234, ha.sub (Sub.c 2 rfl (.c 8 rfl (.c 19 rfl (.c 109 rfl (.c 110 rfl (.c 111 (look_int (t := 111) rfl (by first | omega | simp)) .nil)))))), Chg.refl _ _ _, (fs234.mono (by omega) (by omega)), rfl, by omega⟩) ?_
 rintro mm aa wl238 ⟨kj, os, hAwl238, cwl238, hs_os, hm, hkj⟩
 refine (show cw Tryd.prog 124 _ _ _ wl238 from ?_) aa hAwl238
 clear hAwl238
 have zwl238 := cwl238.size
 refine sx_seq fun K239 k239 => sx_region ?_
 refine sp rfl (px_lt rfl rfl) ?_
 refine wl_nil (q_n (k239 _ _ ?_))
 refine sx_seq fun K240 k240 => ?_
 refine sx_condP rfl (fun h85 => ?_) (fun h85 => ?_)
 ·
  refine sx_skip ?_
  refine q_n (k240 _ _ ?_)
  refine sx_seq fun K241 k241 => ?_
  refine sx_block ?_
  refine sx_seq fun K242 k242 => sx_region ?_
  have f243 := f237.chg cwl238 (by omega)
  refine sp rfl (px_index1 (j := kj) rfl rfl (by omega) Tryd.underlying55 Tryd.sizeOf23 f243.sv (by omega)) ?_
  refine sp rfl (px_load rfl (f243.sv.load1 (vs_at (by omega)) Tryd.isAgg23)) ?_
  refine av rfl rfl (wl_nil (q_n (k242 _ _ ?_)))
  refine sx_region ?_
  refine mv rfl rfl (sp rfl (px_field rfl xfld25x0) ?_)
  have f246 := ((hb_b2.ext c152).ext c155).chg cwl159 (by omega)
  have f247 := f246.ext cs234
  have f248 := f247.chg cwl238 (by omega)
  refine sp rfl (px_load rfl (f248.load1 rfl Tryd.isAgg4)) ?_
  refine mv rfl rfl (sx_call rfl rfl Tryd.call33 (c_signed ((((hq2 kj (by omega)).ext cs234).far cwl238 (by omega))).fit (by rw [hall kj (by omega)]; have h9 := mg_len hW (X := x.natAbs) (i := kj) (by omega) (Nat.le_refl _); omega)) (fun v249 w249 p249 => ?_))
  obtain ⟨rfl, c249⟩ := p249
  have zw249 := c249.size
  have f250 := ((((hq2 kj (by omega)).ext cs234).far cwl238 (by omega))).fit.ext c249
  refine sx_let (t := 119) rfl (show Value.agg #[.bool (nz (ng x) (dg (mgT x.natAbs ws ix2152 kk kj))), (ms2.getD kj vz)] = Value.agg #[.bool (nz (ng x) (dg (mg x.natAbs ws kj))), (ms2.getD kj vz)] from by rw [hall kj (by omega)]) ?_
  have honef251 := f250.one
  refine sx_lit1A2 rfl xelt31 rfl (fun s252 ws252 ss252 fs252 cs252 => ?_)
  have zws252 := cs252.size
  have f255 := (hs_os.ext c249).ext cs252
  refine sx_append2 rfl xelt31 rfl rfl f255 fs252.sv (by omega) (by intro u hu; simp only [List.mem_cons, List.not_mem_nil, or_false] at hu; rcases hu with rfl | rfl; rfl; assumption) (by omega) (by omega) (by unfold maxLen; omega) (fun a253 w253 alw253 ahw253 adw253 fw253 cw253 => ?_)
  have zw253 := cw253.size
  refine av rfl rfl (wl_nil ?_)
  refine q_bn (q_n (k241 _ _ ?_))
  refine sx_sub (Sub.c 2 rfl (.c 8 rfl (.c 19 rfl (.c 109 rfl (.c 110 rfl (.c 111 rfl .nil)))))) ?_
  refine sx_region ?_
  refine sp rfl (px_add rfl rfl (by omega)) ?_
  refine mv rfl rfl (wl_nil ?_)
  have q256 := Chg.step (l := wl159.heap.size) (h := ws234.heap.size) cwl238 (c249.t cs252) (by omega)
  have q257 := Chg.step (l := wl159.heap.size) (h := ws234.heap.size) q256 cw253 (by omega)
  exact fun a ha => ⟨_, by omega, (kj + 1), a253, ha.sub (Sub.c 2 rfl (.c 8 rfl (.c 19 rfl (.c 109 rfl (.c 110 rfl (.c 111 (look_int (t := 111) rfl (by first | omega | simp)) .nil)))))), q257, (by rw [sgc_succ, ← shr_ng]; exact (fw253.mono (by omega) (by omega))), rfl, by omega⟩
 refine sx_exit ?_
 refine q_e (q_e (q_bx (q_n (k235 _ _ ?_))))
 refine sx_seq fun K258 k258 => sx_region ?_
 refine mv rfl rfl (av rfl rfl (av rfl rfl (wl_nil (q_n (k258 _ _ ?_)))))
 refine sx_retc ?_
 refine sx_ret2 Tryd.results6 rfl rfl ?_
 have q259 := Chg.step (l := 0) (h := 0) (Chg.zero (l := 0) (h := 0) ((cwl36.t c152).t c155)) cwl159 (by omega)
 have q260 := Chg.step (l := 0) (h := 0) q259 cs234 (by omega)
 have q261 := Chg.step (l := 0) (h := 0) q260 cwl238 (by omega)
 exact ⟨_, ms2, rfl, sgs_of hs_os (by omega) hml2 (fun i hi => by rw [← hall i hi]; exact ((((hq2 i hi).ext cs234).far cwl238 (by omega))).fit), ⟨_, hPp, hSs⟩, q261⟩

theorem c_l01New {w : World} {vb : Value} {lvb uvb : Nat} {bs : List Int} (hvb : SlB w lvb uvb vb (bs)) (hb8 : ∀ j, j < bs.length → 0 ≤ bs.getD j 0 ∧ bs.getD j 0 ≤ 255) (hbl : bs.length ≤ 1048576) :
  Ret Tryd.prog 12 [vb] w fun v w' => ∃ c h2, v = .pointer (some ⟨c, 0, none⟩) ∧ Blk w' c [vb, .int .i64 (0), .int .i64 (h2)] 79 ∧ (0 ≤ h2 ∧ h2 ≤ 1073741823) ∧ (w.heap.size ≤ c ∧ c < w'.heap.size) ∧ Chg 0 0 w w' := by
 refine sx_enter Tryd.func12 rfl Tryd.ntmps12 (nbl rfl) ?_
 refine sx_seq fun K1 k1 => sx_region ?_
 refine av rfl rfl (wl_nil (q_n (k1 _ _ ?_)))
 refine sx_seq fun K2 k2 => sx_region ?_
 refine mv rfl rfl (sp rfl (px_len rfl Tryd.underlying22 hvb) ?_)
 refine sp rfl (px_add rfl rfl (by omega)) ?_
 refine av rfl rfl (wl_nil (q_n (k2 _ _ ?_)))
 refine sx_seq fun K3 k3 => ?_
 refine sx_seq fun K4 k4 => sx_region ?_
 refine av rfl rfl (wl_nil (q_n (k4 _ _ ?_)))
 refine sx_block ?_
 refine sx_loop (fun mm aa w' => ∃ (k : Nat) (h : Int), Agr 32 [(0, vb), (3, .int .i64 h), (4, .int .i64 ↑k)] aa ∧ Chg 0 0 w w' ∧ (mm = bs.length - k) ∧ (k ≤ bs.length) ∧ (0 ≤ h ∧ h ≤ 1073741823)) (_) (fun a ha => ⟨0, (1616 + (bs.length : Int)), ha.sub (Sub.c 0 rfl (.c 3 (look_int (t := 3) rfl (by first | omega | simp)) (.c 4 (look_int (t := 4) rfl (by first | omega | simp)) .nil))), Chg.refl _ _ _, rfl, by omega, by omega⟩) ?_
 rintro mm aa wl5 ⟨k, h, hAwl5, cwl5, hm, hk, hh⟩
 refine (show cw Tryd.prog 32 _ _ _ wl5 from ?_) aa hAwl5
 clear hAwl5
 have zwl5 := cwl5.size
 have hv8 := hb8 k
 refine sx_seq fun K6 k6 => ?_
 refine sx_seq fun K7 k7 => sx_region ?_
 refine mv rfl rfl (mv rfl rfl ?_)
 have f8 := hvb.ext cwl5
 refine sp rfl (px_len rfl Tryd.underlying22 f8) ?_
 refine sp rfl (px_lt rfl rfl) ?_
 refine mv rfl rfl ?_
 refine sx_tmpP (t := 12) rfl (fun h135 => ?_) (fun h135 => ?_)
 ·
  refine sx_guardT rfl rfl rfl ?_
  refine mv rfl rfl ?_
  refine sx_guardT rfl rfl rfl ?_
  refine sp rfl (px_lt rfl rfl) ?_
  refine sp rfl (px_pick rfl rfl) ?_
  refine wl_nil (q_n (k7 _ _ ?_))
  refine sx_condP rfl (fun h135x1 => ?_) (fun h135x1 => ?_)
  ·
   refine sx_skip ?_
   refine q_n (k6 _ _ ?_)
   refine sx_seq fun K9 k9 => ?_
   refine sx_block ?_
   refine sx_region ?_
   refine mv rfl rfl (sp rfl (px_mul rfl rfl (by omega)) ?_)
   refine mv rfl rfl (mv rfl rfl (sp rfl (px_index1 (j := k) rfl rfl (by omega) Tryd.underlying22 Tryd.sizeOf5 f8 (by omega)) ?_))
   refine sp rfl (px_load rfl (f8.load1 (at_u8 (by omega)) Tryd.isAgg5)) ?_
   refine sp rfl (px_conv8 Tryd.underlying5 Tryd.underlying3 rfl (hb8 _ (by omega))) ?_
   refine sp rfl (px_add rfl rfl (by omega)) ?_
   refine sp rfl (px_add rfl rfl (by omega)) ?_
   have hm10 := andI_mask (((h * 41) + ((bs).getD k 0)) + 7) (m := 1073741823) (by decide) (by decide)
   refine sp rfl (px_andW rfl rfl) ?_
   refine av rfl rfl (wl_nil ?_)
   refine q_bn (q_n (k9 _ _ ?_))
   refine sx_sub (Sub.c 0 rfl (.c 3 rfl (.c 4 rfl .nil))) ?_
   refine sx_region ?_
   refine mv rfl rfl (sp rfl (px_add rfl rfl (by omega)) ?_)
   refine av rfl rfl (wl_nil ?_)
   exact fun a ha => ⟨_, by omega, (k + 1), (andI (((h * 41) + ((bs).getD k 0)) + 7) 1073741823), ha.sub (Sub.c 0 rfl (.c 3 (look_int (t := 3) rfl (by first | omega | simp)) (.c 4 (look_int (t := 4) rfl (by first | omega | simp)) .nil))), cwl5, rfl, by omega, by omega⟩
  refine sx_exit ?_
  refine q_e (q_e (q_bx (q_n (k3 _ _ ?_))))
  refine sx_seq fun K11 k11 => sx_region ?_
  refine mv rfl rfl (mv rfl rfl (sp rfl (px_build rfl (xbld79x0x2 f8.one rfl _)) ?_))
  refine sx_box [vb, .int .i64 0, .int .i64 h] rfl rfl rfl (fun b12 w13 eb12 sb12 fb12 cb12 => ?_)
  have zw13 := cb12.size
  refine av rfl rfl (wl_nil (q_n (k11 _ _ ?_)))
  refine sx_sub (Sub.c 2 rfl .nil) ?_
  refine sx_retc ?_
  refine sx_ret1 Tryd.results12 rfl ?_
  exact ⟨_, _, rfl, fb12, by omega, by omega, (cwl5.t cb12)⟩
 refine sx_guardF rfl rfl rfl rfl rfl rfl ?_
 refine sx_guardF rfl rfl rfl rfl rfl rfl ?_
 refine sp rfl (px_pick rfl rfl) ?_
 refine wl_nil (q_n (k7 _ _ ?_))
 refine sx_condF rfl ?_
 refine sx_exit ?_
 refine q_e (q_e (q_bx (q_n (k3 _ _ ?_))))
 refine sx_seq fun K14 k14 => sx_region ?_
 refine mv rfl rfl (mv rfl rfl (sp rfl (px_build rfl (xbld79x0x2 f8.one rfl _)) ?_))
 refine sx_box [vb, .int .i64 0, .int .i64 h] rfl rfl rfl (fun b15 w16 eb15 sb15 fb15 cb15 => ?_)
 have zw16 := cb15.size
 refine av rfl rfl (wl_nil (q_n (k14 _ _ ?_)))
 refine sx_sub (Sub.c 2 rfl .nil) ?_
 refine sx_retc ?_
 refine sx_ret1 Tryd.results12 rfl ?_
 exact ⟨_, _, rfl, fb15, by omega, by omega, (cwl5.t cb15)⟩

theorem c_l01Byte {w : World} {c : Nat} {vb : Value} {lvb uvb : Nat} {bs : List Int} {i : Int} {h : Int} (hc : Blk w c [vb, .int .i64 i, .int .i64 h] 79) (hvb : SlB w lvb uvb vb (bs)) (hb8 : ∀ j, j < bs.length → 0 ≤ bs.getD j 0 ∧ bs.getD j 0 ≤ 255) (hbl : bs.length ≤ 1048576) (hi : 0 ≤ i ∧ i ≤ bs.length) (hdis : uvb ≤ c) :
  Ret Tryd.prog 60 [.pointer (some ⟨c, 0, none⟩)] w fun v w' => ∃ x i2 h2, v = .int .i64 (x) ∧ Blk w' c [vb, .int .i64 (i2), .int .i64 (h2)] 79 ∧ (0 ≤ x ∧ x ≤ 255) ∧ (0 ≤ i2 ∧ i2 ≤ (bs).length) ∧ Chg c (c + 1) w w' := by
 have clt := hc.lt
 refine sx_enter Tryd.func60 rfl Tryd.ntmps60 (nbl rfl) ?_
 refine sx_seq fun K1 k1 => sx_region ?_
 refine av rfl rfl (wl_nil (q_n (k1 _ _ ?_)))
 refine sx_seq fun K2 k2 => sx_region ?_
 refine mv rfl rfl (mv rfl rfl (sp rfl (px_nil rfl) ?_))
 refine sp rfl (px_field rfl xfld79x2) ?_
 refine sp rfl (px_load rfl (hc.load1 rfl Tryd.isAgg3)) ?_
 refine sp rfl (px_mulW rfl rfl) ?_
 refine sp rfl (px_addW rfl rfl) ?_
 refine sp rfl (px_nil rfl) ?_
 refine sp rfl (px_field rfl xfld79x2) ?_
 refine sx_store (vs := [.int .i64 (i64w ((i64w (h * 6364136223846793005)) + 1442695040888963407))]) rfl rfl hc rfl Tryd.sizeOf3 (nbl rfl) (o1 rfl) (fun w3 sw3 fw3 cw3 => ?_)
 have zw3 := cw3.size
 have gw3 : Blk w3 c [vb, .int .i64 i, .int .i64 (i64w ((i64w (h * 6364136223846793005)) + 1442695040888963407))] 79 := fw3
 refine wl_nil (q_n (k2 _ _ ?_))
 refine sx_seq fun K4 k4 => ?_
 have f5 := hvb.chg cw3 (by omega)
 refine dx_region (fun w' => Chg 0 0 w3 w') (by kernel_rfl) (Chg.zero (Chg.drew _)) ?_
 have d6 := Chg.drew w3
 have s6 : Chg 0 0 w3 (World.drew w3) := Chg.zero (Chg.drew _)
 have y6 : (World.drew w3).heap.size = w3.heap.size := rfl
 generalize World.drew w3 = w6 at *
 have zw6 := d6.size
 refine dt 0 rfl rfl rfl rfl s6 (fun _ hS => px_move rfl) ?_
 refine dt 1 rfl rfl rfl rfl s6 (fun _ hS => px_nil rfl) ?_
 refine dt 2 rfl rfl rfl rfl s6 (fun _ hS => px_field rfl xfld79x2) ?_
 refine dt 3 rfl rfl rfl rfl s6 (fun _ hS => px_load rfl ((gw3.chg hS (by omega)).load1 rfl Tryd.isAgg3)) ?_
 refine dt 4 rfl rfl rfl rfl s6 (fun _ hS => px_shrW rfl rfl (by decide)) ?_
 refine dt 5 rfl rfl rfl rfl s6 (fun _ hS => px_move rfl) ?_
 refine dt 6 rfl rfl rfl rfl s6 (fun _ hS => px_nil rfl) ?_
 refine dt 7 rfl rfl rfl rfl s6 (fun _ hS => px_field rfl xfld79x2) ?_
 refine dt 8 rfl rfl rfl rfl s6 (fun _ hS => px_load rfl ((gw3.chg hS (by omega)).load1 rfl Tryd.isAgg3)) ?_
 refine dt 9 rfl rfl rfl rfl s6 (fun _ hS => px_shrW rfl rfl (by decide)) ?_
 refine dt 10 rfl rfl rfl rfl s6 (fun _ hS => px_xorW rfl rfl) ?_
 have hm7 := andI_mask (xorI ((i64w ((i64w (h * 6364136223846793005)) + 1442695040888963407)).fdiv (2 ^ min (33 : Int).toNat 64)) ((i64w ((i64w (h * 6364136223846793005)) + 1442695040888963407)).fdiv (2 ^ min (45 : Int).toNat 64))) (m := 255) (by decide) (by decide)
 refine dt 11 rfl rfl rfl rfl s6 (fun _ hS => px_andW rfl rfl) ?_
 refine dt 12 rfl rfl rfl rfl s6 (fun _ hS => px_assign rfl) ?_
 refine dx_done (by kernel_rfl) ?_
 refine q_n (k4 _ _ ?_)
 refine sx_sub (Sub.c 0 rfl (.c 2 rfl (.c 3 rfl .nil))) ?_
 refine sx_seq fun K8 k8 => ?_
 refine sx_seq fun K9 k9 => ?_
 have f10 := gw3.ext d6
 have f11 := f5.ext d6
 refine dx_region (fun w' => Chg 0 0 w6 w') (by kernel_rfl) (Chg.zero (Chg.drew _)) ?_
 have d12 := Chg.drew w6
 have s12 : Chg 0 0 w6 (World.drew w6) := Chg.zero (Chg.drew _)
 have y12 : (World.drew w6).heap.size = w6.heap.size := rfl
 generalize World.drew w6 = w12 at *
 have zw12 := d12.size
 refine dt 0 rfl rfl rfl rfl s12 (fun _ hS => px_move rfl) ?_
 refine dt 1 rfl rfl rfl rfl s12 (fun _ hS => px_nil rfl) ?_
 refine dt 2 rfl rfl rfl rfl s12 (fun _ hS => px_field rfl xfld79x1) ?_
 refine dt 3 rfl rfl rfl rfl s12 (fun _ hS => px_load rfl ((f10.chg hS (by omega)).load1 rfl Tryd.isAgg3)) ?_
 refine dt 4 rfl rfl rfl rfl s12 (fun _ hS => px_move rfl) ?_
 refine dt 5 rfl rfl rfl rfl s12 (fun _ hS => px_nil rfl) ?_
 refine dt 6 rfl rfl rfl rfl s12 (fun _ hS => px_field rfl xfld79x0) ?_
 refine dt 7 rfl rfl rfl rfl s12 (fun _ hS => px_load rfl ((f10.chg hS (by omega)).load1 rfl Tryd.isAgg22)) ?_
 refine dt 8 rfl rfl rfl rfl s12 (fun _ hS => px_len rfl Tryd.underlying22 ((f11).chg hS (by omega))) ?_
 refine dt 9 rfl rfl rfl rfl s12 (fun _ hS => px_lt rfl rfl) ?_
 refine dx_done (by kernel_rfl) ?_
 refine q_n (k9 _ _ ?_)
 refine sx_condP rfl (fun h144 => ?_) (fun h144 => ?_)
 ·
  refine sx_seq fun K13 k13 => ?_
  have f14 := f10.ext d12
  have f15 := f11.ext d12
  refine dx_region (fun w' => Chg 0 0 w12 w') (by kernel_rfl) (Chg.zero (Chg.drew _)) ?_
  have d16 := Chg.drew w12
  have s16 : Chg 0 0 w12 (World.drew w12) := Chg.zero (Chg.drew _)
  have y16 : (World.drew w12).heap.size = w12.heap.size := rfl
  generalize World.drew w12 = w16 at *
  have zw16 := d16.size
  refine dt 0 rfl rfl rfl rfl s16 (fun _ hS => px_move rfl) ?_
  refine dt 1 rfl rfl rfl rfl s16 (fun _ hS => px_move rfl) ?_
  refine dt 2 rfl rfl rfl rfl s16 (fun _ hS => px_nil rfl) ?_
  refine dt 3 rfl rfl rfl rfl s16 (fun _ hS => px_field rfl xfld79x0) ?_
  refine dt 4 rfl rfl rfl rfl s16 (fun _ hS => px_load rfl ((f14.chg hS (by omega)).load1 rfl Tryd.isAgg22)) ?_
  refine dt 5 rfl rfl rfl rfl s16 (fun _ hS => px_move rfl) ?_
  refine dt 6 rfl rfl rfl rfl s16 (fun _ hS => px_nil rfl) ?_
  refine dt 7 rfl rfl rfl rfl s16 (fun _ hS => px_field rfl xfld79x1) ?_
  refine dt 8 rfl rfl rfl rfl s16 (fun _ hS => px_load rfl ((f14.chg hS (by omega)).load1 rfl Tryd.isAgg3)) ?_
  refine dt 9 rfl rfl rfl rfl s16 (fun _ hS => px_index1 (j := i.toNat) rfl rfl (by omega) Tryd.underlying22 Tryd.sizeOf5 ((f15).chg hS (by omega)) (by omega)) ?_
  refine dt 10 rfl rfl rfl rfl s16 (fun _ hS => px_load rfl (((f15).chg hS (by omega)).load1 (at_u8 (by omega)) Tryd.isAgg5)) ?_
  refine dt 11 rfl rfl rfl rfl s16 (fun _ hS => px_conv8 Tryd.underlying5 Tryd.underlying3 rfl (hb8 _ (by omega))) ?_
  refine dt 12 rfl rfl rfl rfl s16 (fun _ hS => px_addW rfl rfl) ?_
  have hm17 := andI_mask (i64w ((andI (xorI ((i64w ((i64w (h * 6364136223846793005)) + 1442695040888963407)).fdiv (2 ^ min (33 : Int).toNat 64)) ((i64w ((i64w (h * 6364136223846793005)) + 1442695040888963407)).fdiv (2 ^ min (45 : Int).toNat 64))) 255) + ((bs).getD i.toNat 0))) (m := 255) (by decide) (by decide)
  refine dt 13 rfl rfl rfl rfl s16 (fun _ hS => px_andW rfl rfl) ?_
  refine dt 14 rfl rfl rfl rfl s16 (fun _ hS => px_assign rfl) ?_
  refine dx_done (by kernel_rfl) ?_
  refine q_n (k13 _ _ ?_)
  refine sx_sub (Sub.c 0 rfl (.c 2 rfl (.c 3 rfl .nil))) ?_
  refine sx_region ?_
  refine mv rfl rfl (mv rfl rfl (sp rfl (px_nil rfl) ?_))
  refine sp rfl (px_field rfl xfld79x1) ?_
  have f18 := f14.ext d16
  refine sp rfl (px_load rfl (f18.load1 rfl Tryd.isAgg3)) ?_
  refine sp rfl (px_add rfl rfl (by omega)) ?_
  refine sp rfl (px_nil rfl) ?_
  refine sp rfl (px_field rfl xfld79x1) ?_
  refine sx_store (vs := [.int .i64 (i + 1)]) rfl rfl f18 rfl Tryd.sizeOf3 (nbl rfl) (o1 rfl) (fun w19 sw19 fw19 cw19 => ?_)
  have zw19 := cw19.size
  have gw19 : Blk w19 c [vb, .int .i64 (i + 1), .int .i64 (i64w ((i64w (h * 6364136223846793005)) + 1442695040888963407))] 79 := fw19
  refine wl_nil (q_n (k8 _ _ ?_))
  refine sx_seq fun K20 k20 => sx_region ?_
  refine mv rfl rfl (av rfl rfl (wl_nil (q_n (k20 _ _ ?_))))
  refine sx_retc ?_
  refine sx_ret1 Tryd.results60 rfl ?_
  have q21 := Chg.step (l := c) (h := (c + 1)) cw3 ((d6.t d12).t d16) (by omega)
  have q22 := Chg.step (l := c) (h := (c + 1)) q21 cw19 (by omega)
  exact ⟨_, _, _, rfl, gw19, by omega, by omega, q22⟩
 refine sx_skip ?_
 refine q_n (k8 _ _ ?_)
 refine sx_seq fun K23 k23 => sx_region ?_
 refine mv rfl rfl (av rfl rfl (wl_nil (q_n (k23 _ _ ?_))))
 refine sx_retc ?_
 refine sx_ret1 Tryd.results60 rfl ?_
 have f24 := f10.ext d12
 have q25 := Chg.step (l := c) (h := (c + 1)) cw3 (d6.t d12) (by omega)
 exact ⟨_, _, _, rfl, f24, by omega, by omega, q25⟩

theorem c_l01Below {w : World} {c : Nat} {vb : Value} {lvb uvb : Nat} {bs : List Int} {i : Int} {h : Int} {n : Int} (hc : Blk w c [vb, .int .i64 i, .int .i64 h] 79) (hvb : SlB w lvb uvb vb (bs)) (hb8 : ∀ j, j < bs.length → 0 ≤ bs.getD j 0 ∧ bs.getD j 0 ≤ 255) (hbl : bs.length ≤ 1048576) (hi : 0 ≤ i ∧ i ≤ bs.length) (hdis : uvb ≤ c) (hn : 1 ≤ n ∧ n ≤ 1000000000) :
  Ret Tryd.prog 41 [.pointer (some ⟨c, 0, none⟩), .int .i64 n] w fun v w' => ∃ x i2 h2, v = .int .i64 (x) ∧ Blk w' c [vb, .int .i64 (i2), .int .i64 (h2)] 79 ∧ (0 ≤ x ∧ x < n) ∧ (0 ≤ i2 ∧ i2 ≤ (bs).length) ∧ Chg c (c + 1) w w' := by
 have clt := hc.lt
 refine sx_enter Tryd.func41 rfl Tryd.ntmps41 (nbl rfl) ?_
 refine sx_seq fun K1 k1 => sx_region ?_
 refine av rfl rfl (wl_nil (q_n (k1 _ _ ?_)))
 refine sx_seq fun K2 k2 => ?_
 refine sx_seq fun K3 k3 => sx_region ?_
 refine mv rfl rfl (sp rfl (px_le rfl rfl) ?_)
 refine wl_nil (q_n (k3 _ _ ?_))
 have h153 : ¬ ((n : Int) ≤ 0) := by omega
 refine sx_condPF rfl h153 ?_
 refine sx_skip ?_
 refine q_n (k2 _ _ ?_)
 refine sx_seq fun K4 k4 => ?_
 refine sx_seq fun K5 k5 => sx_region ?_
 refine mv rfl rfl (sp rfl (px_le rfl rfl) ?_)
 refine wl_nil (q_n (k5 _ _ ?_))
 refine sx_condP rfl (fun h156 => ?_) (fun h156 => ?_)
 ·
  refine sx_seq fun K6 k6 => sx_region ?_
  refine mv rfl rfl (sx_call rfl rfl Tryd.call60 (c_l01Byte hc hvb (by assumption) (by omega) (by omega) (by omega)) (fun v7 w7 p7 => ?_))
  obtain ⟨x7, i27, h27, rfl, xc_7, hx7, hi27, c7⟩ := p7
  have zw7 := c7.size
  refine mv rfl rfl (sp rfl (px_rem rfl rfl (by omega) (by omega)) ?_)
  refine av rfl rfl (wl_nil (q_n (k6 _ _ ?_)))
  refine sx_retc ?_
  refine q_r (sx_ret1 Tryd.results41 rfl ?_)
  have hmp := Int.emod_nonneg x7 (show n ≠ 0 by omega)
  have hml := Int.emod_lt_of_pos x7 (show 0 < n by omega)
  exact ⟨_, _, _, rfl, xc_7, by omega, by omega, c7⟩
 refine sx_skip ?_
 refine q_n (k4 _ _ ?_)
 refine sx_seq fun K8 k8 => sx_region ?_
 refine mv rfl rfl (sx_call rfl rfl Tryd.call60 (c_l01Byte hc hvb (by assumption) (by omega) (by omega) (by omega)) (fun v9 w9 p9 => ?_))
 obtain ⟨x9, i29, h29, rfl, xc_9, hx9, hi29, c9⟩ := p9
 have zw9 := c9.size
 refine av rfl rfl (wl_nil (q_n (k8 _ _ ?_)))
 refine sx_seq fun K10 k10 => sx_region ?_
 refine mv rfl rfl ?_
 have f11 := hvb.chg c9 (by omega)
 refine sx_call rfl rfl Tryd.call60 (c_l01Byte xc_9 f11 (by assumption) (by omega) (by omega) (by omega)) (fun v12 w12 p12 => ?_)
 obtain ⟨x12, i212, h212, rfl, xc_12, hx12, hi212, c12⟩ := p12
 have zw12 := c12.size
 refine av rfl rfl (wl_nil (q_n (k10 _ _ ?_)))
 refine sx_seq fun K13 k13 => sx_region ?_
 refine mv rfl rfl ?_
 have f14 := f11.chg c12 (by omega)
 refine sx_call rfl rfl Tryd.call60 (c_l01Byte xc_12 f14 (by assumption) (by omega) (by omega) (by omega)) (fun v15 w15 p15 => ?_)
 obtain ⟨x15, i215, h215, rfl, xc_15, hx15, hi215, c15⟩ := p15
 have zw15 := c15.size
 refine av rfl rfl (wl_nil (q_n (k13 _ _ ?_)))
 refine sx_sub (Sub.c 0 rfl (.c 1 rfl (.c 4 rfl (.c 5 rfl (.c 6 rfl (.c 7 rfl .nil)))))) ?_
 refine sx_seq fun K16 k16 => sx_region ?_
 refine mv rfl rfl ?_
 have f17 := f14.chg c15 (by omega)
 refine sx_call rfl rfl Tryd.call60 (c_l01Byte xc_15 f17 (by assumption) (by omega) (by omega) (by omega)) (fun v18 w18 p18 => ?_)
 obtain ⟨x18, i218, h218, rfl, xc_18, hx18, hi218, c18⟩ := p18
 have zw18 := c18.size
 refine av rfl rfl (wl_nil (q_n (k16 _ _ ?_)))
 refine sx_seq fun K19 k19 => sx_region ?_
 refine mv rfl rfl (sp rfl (px_mul rfl rfl (by omega)) ?_)
 refine mv rfl rfl (sp rfl (px_mul rfl rfl (by omega)) ?_)
 refine sp rfl (px_add rfl rfl (by omega)) ?_
 refine mv rfl rfl (sp rfl (px_mul rfl rfl (by omega)) ?_)
 refine sp rfl (px_add rfl rfl (by omega)) ?_
 refine mv rfl rfl (sp rfl (px_add rfl rfl (by omega)) ?_)
 refine mv rfl rfl (sp rfl (px_rem rfl rfl (by omega) (by omega)) ?_)
 refine av rfl rfl (wl_nil (q_n (k19 _ _ ?_)))
 refine sx_sub (Sub.c 4 rfl .nil) ?_
 refine sx_retc ?_
 refine sx_ret1 Tryd.results41 rfl ?_
 have hmp := Int.emod_nonneg ((((x9 * 16777216) + (x12 * 65536)) + (x15 * 256)) + x18) (show n ≠ 0 by omega)
 have hml := Int.emod_lt_of_pos ((((x9 * 16777216) + (x12 * 65536)) + (x15 * 256)) + x18) (show 0 < n by omega)
 have q20 := Chg.step (l := c) (h := (c + 1)) c9 c12 (by omega)
 have q21 := Chg.step (l := c) (h := (c + 1)) q20 c15 (by omega)
 have q22 := Chg.step (l := c) (h := (c + 1)) q21 c18 (by omega)
 exact ⟨_, _, _, rfl, xc_18, by omega, by omega, q22⟩

theorem c_l01Pick {w : World} {c : Nat} {vb : Value} {lvb uvb : Nat} {bs : List Int} {i : Int} {h : Int} {vl : Value} {lvl uvl : Nat} {zs : List Int} (hc : Blk w c [vb, .int .i64 i, .int .i64 h] 79) (hvb : SlB w lvb uvb vb (bs)) (hvl : Sl w lvl uvl vl (zs)) (hb8 : ∀ j, j < bs.length → 0 ≤ bs.getD j 0 ∧ bs.getD j 0 ≤ 255) (hbl : bs.length ≤ 1048576) (hi : 0 ≤ i ∧ i ≤ bs.length) (hdis : uvb ≤ c) (hz : 1 ≤ zs.length ∧ zs.length ≤ 1000) (hd2 : uvl ≤ c ∨ c < lvl) :
  Ret Tryd.prog 47 [.pointer (some ⟨c, 0, none⟩), vl] w fun v w' => ∃ x i2 h2, v = .int .i64 (x) ∧ Blk w' c [vb, .int .i64 (i2), .int .i64 (h2)] 79 ∧ (x ∈ zs) ∧ (0 ≤ i2 ∧ i2 ≤ (bs).length) ∧ Chg c (c + 1) w w' := by
 have clt := hc.lt
 refine sx_enter Tryd.func47 rfl Tryd.ntmps47 (nbl rfl) ?_
 refine sx_seq fun K1 k1 => sx_region ?_
 refine av rfl rfl (wl_nil (q_n (k1 _ _ ?_)))
 refine sx_seq fun K2 k2 => sx_region ?_
 refine mv rfl rfl (mv rfl rfl (mv rfl rfl (sp rfl (px_len rfl Tryd.underlying23 hvl) ?_)))
 refine sx_call rfl rfl Tryd.call41 (c_l01Below hc hvb (by assumption) (by omega) (by omega) (by omega) (by omega)) (fun v3 w3 p3 => ?_)
 obtain ⟨x3, i23, h23, rfl, xc_3, hx3, hi23, c3⟩ := p3
 have zw3 := c3.size
 have f4 := hvl.chg c3 (by omega)
 refine sp rfl (px_index1 (j := x3.toNat) rfl rfl (by omega) Tryd.underlying23 Tryd.sizeOf3 f4 (by omega)) ?_
 refine sp rfl (px_load rfl (f4.load1 (at_int (by omega)) Tryd.isAgg3)) ?_
 refine av rfl rfl (wl_nil (q_n (k2 _ _ ?_)))
 refine sx_retc ?_
 refine sx_ret1 Tryd.results47 rfl ?_
 exact ⟨_, _, _, rfl, xc_3, mem_getD (by omega), by omega, c3⟩

theorem c_l12Draw {w : World} {c : Nat} {vb : Value} {lvb uvb : Nat} {bs : List Int} {i : Int} {h : Int} (hc : Blk w c [vb, .int .i64 i, .int .i64 h] 79) (hvb : SlB w lvb uvb vb (bs)) (hb8 : ∀ j, j < bs.length → 0 ≤ bs.getD j 0 ∧ bs.getD j 0 ≤ 255) (hbl : bs.length ≤ 1048576) (hi : 0 ≤ i ∧ i ≤ bs.length) (hdis : uvb ≤ c) :
  Ret Tryd.prog 16 [.pointer (some ⟨c, 0, none⟩)] w fun v w' => ∃ s ws i2 h2, v = s ∧ OwnI w' w.heap.size w'.heap.size s intT (ws) ∧ Blk w' c [vb, .int .i64 (i2), .int .i64 (h2)] 79 ∧ (Wd ws) ∧ ((ws).length ≤ 6) ∧ (0 ≤ i2 ∧ i2 ≤ (bs).length) ∧ Chg c (c + 1) w w' := by
 have clt := hc.lt
 have clt := hc.lt
 refine sx_enter Tryd.func16 rfl Tryd.ntmps16 (nbl rfl) ?_
 refine sx_seq fun K1 k1 => sx_region ?_
 refine av rfl rfl (wl_nil (q_n (k1 _ _ ?_)))
 refine sx_seq fun K2 k2 => sx_region ?_
 refine mv rfl rfl (sx_call rfl rfl Tryd.call41 (c_l01Below hc hvb (by assumption) (by omega) (by omega) (by omega) (by omega)) (fun v3 w3 p3 => ?_))
 obtain ⟨x3, i23, h23, rfl, xc_3, hx3, hi23, c3⟩ := p3
 have zw3 := c3.size
 refine sp rfl (px_add rfl rfl (by omega)) ?_
 refine sx_lit1 rfl xelt23 rfl rfl (fun s4 ws4 ss4 fs4 cs4 => ?_)
 have ns4 := Own.norm (f := (Value.int .i64)) (zs := [1 + x3]) fs4
 have zws4 := cs4.size
 refine av rfl rfl (wl_nil (q_n (k2 _ _ ?_)))
 refine sx_seq fun K5 k5 => ?_
 refine sx_seq fun K6 k6 => sx_region ?_
 refine mv rfl rfl ?_
 have f7 := xc_3.ext cs4
 have f9 := (hvb.chg c3 (by omega)).ext cs4
 refine sx_call rfl rfl Tryd.call41 (c_l01Below f7 f9 (by assumption) (by omega) (by omega) (by omega) (by omega)) (fun v10 w10 p10 => ?_)
 obtain ⟨x10, i210, h210, rfl, xc_10, hx10, hi210, c10⟩ := p10
 have zw10 := c10.size
 refine av rfl rfl (wl_nil (q_n (k6 _ _ ?_)))
 refine sx_block ?_
 have f12 := ns4.chg c10 (by omega)
 have q13 := Chg.step (l := c) (h := (c + 1)) c3 cs4 (by omega)
 have q14 := Chg.step (l := c) (h := (c + 1)) q13 c10 (by omega)
 refine sx_loop (fun mm aa w' => ∃ (s : Value) (os : List Int) (n2 : Int) (i2 : Int) (h2 : Int), Agr 24 [(0, .pointer (some ⟨c, 0, none⟩)), (3, s), (4, .int .i64 n2)] aa ∧ Chg c (c + 1) w w' ∧ Blk w' c [vb, .int .i64 i2, .int .i64 h2] 79 ∧ Own w' w.heap.size w'.heap.size s intT os.length 1 (os.map (Value.int .i64)) ∧ (mm = n2.toNat) ∧ (Wd os) ∧ ((os.length : Int) + n2 ≤ 6 ∧ 0 ≤ n2) ∧ (0 ≤ i2 ∧ i2 ≤ bs.length)) (_) (fun a ha => ⟨s4, ([1 + x3]), x10, i210, h210, ha.sub (Sub.c 0 rfl (.c 3 rfl (.c 4 (look_int (t := 4) rfl (by first | omega | simp)) .nil))), q14, xc_10, (f12.mono (by omega) (by omega)), rfl, Wd_one (by omega), by simp only [List.length_cons, List.length_nil]; omega, by omega⟩) ?_
 rintro mm aa wl11 ⟨s, os, n2, i2, h2, hAwl11, cwl11, hb_c, hs_s, hm, hwd, hln, hi2⟩
 refine (show cw Tryd.prog 24 _ _ _ wl11 from ?_) aa hAwl11
 clear hAwl11
 have zwl11 := cwl11.size
 have lt15 := hb_c.lt
 refine sx_seq fun K16 k16 => ?_
 refine sx_seq fun K17 k17 => sx_region ?_
 refine mv rfl rfl (sp rfl (px_gt rfl rfl) ?_)
 refine wl_nil (q_n (k17 _ _ ?_))
 refine sx_condP rfl (fun h123 => ?_) (fun h123 => ?_)
 ·
  refine sx_skip ?_
  refine q_n (k16 _ _ ?_)
  refine sx_seq fun K18 k18 => ?_
  refine sx_block ?_
  refine sx_region ?_
  refine mv rfl rfl (mv rfl rfl (mv rfl rfl ?_))
  have f19 := hvb.chg cwl11 (by omega)
  refine sx_call rfl rfl Tryd.call41 (c_l01Below hb_c f19 (by assumption) (by omega) (by omega) (by omega) (by omega)) (fun v20 w20 p20 => ?_)
  obtain ⟨x20, i220, h220, rfl, xc_20, hx20, hi220, c20⟩ := p20
  have zw20 := c20.size
  refine sx_lit7 rfl xelt23 rfl rfl rfl rfl rfl rfl rfl rfl rfl rfl rfl rfl rfl rfl (fun s21 ws21 ss21 fs21 cs21 => ?_)
  have ns21 := Own.norm (f := (Value.int .i64)) (zs := [0, 1, 1, 2, 3, 7, x20]) fs21
  have zws21 := cs21.size
  have f22 := xc_20.ext cs21
  have f24 := (f19.chg c20 (by omega)).ext cs21
  refine sx_call rfl rfl Tryd.call47 (c_l01Pick f22 f24 ns21.sv (by assumption) (by omega) (by omega) (by omega) (by first | omega | simp) (by omega)) (fun v25 w25 p25 => ?_)
  obtain ⟨x25, i225, h225, rfl, xc_25, hx25, hi225, c25⟩ := p25
  have zw25 := c25.size
  refine sx_lit1 rfl xelt23 rfl rfl (fun s26 ws26 ss26 fs26 cs26 => ?_)
  have ns26 := Own.norm (f := (Value.int .i64)) (zs := [x25]) fs26
  have zws26 := cs26.size
  have f29 := (hs_s.chg c20 (by omega)).ext cs21
  have f31 := (f29.chg c25 (by omega)).ext cs26
  refine sx_append rfl xelt23 rfl rfl f31 ns26.sv one_int (by omega) (by simp only [List.length_cons, List.length_nil]; omega) (by unfold maxLen; simp only [List.length_cons, List.length_nil]; omega) (fun a27 w27 fw27 cw27 => ?_)
  have nw27 := Own.app (f := (Value.int .i64)) (a := os) (b := [x25]) fw27
  have zw27 := cw27.size
  refine av rfl rfl (wl_nil ?_)
  refine q_bn (q_n (k18 _ _ ?_))
  refine sx_region ?_
  refine mv rfl rfl (sp rfl (px_sub rfl rfl (by omega)) ?_)
  refine av rfl rfl (wl_nil ?_)
  have q32 := Chg.step (l := c) (h := (c + 1)) cwl11 c20 (by omega)
  have q33 := Chg.step (l := c) (h := (c + 1)) q32 cs21 (by omega)
  have q34 := Chg.step (l := c) (h := (c + 1)) q33 c25 (by omega)
  have q35 := Chg.step (l := c) (h := (c + 1)) q34 cs26 (by omega)
  have q36 := Chg.step (l := c) (h := (c + 1)) q35 cw27 (by omega)
  have f37 := xc_25.ext cs26
  have f38 := f37.chg cw27 (by omega)
  have hb9 : 0 ≤ x25 ∧ x25 ≤ 99 := by have h9 := hx25; simp only [List.mem_cons, List.not_mem_nil, or_false] at h9; omega
  exact fun a ha => ⟨_, by omega, a27, (os ++ ([x25])), (n2 - 1), i225, h225, ha.sub (Sub.c 0 rfl (.c 3 rfl (.c 4 (look_int (t := 4) rfl (by first | omega | simp)) .nil))), q36, f38, (nw27.mono (by omega) (by omega)), rfl, Wd_snoc hwd hb9, by simp only [List.length_append, List.length_singleton]; omega, by omega⟩
 refine sx_exit ?_
 refine q_e (q_e (q_bx (q_n (k5 _ _ ?_))))
 refine sx_seq fun K39 k39 => sx_region ?_
 refine mv rfl rfl (av rfl rfl (wl_nil (q_n (k39 _ _ ?_))))
 refine sx_retc ?_
 refine sx_ret1 Tryd.results16 rfl ?_
 exact ⟨_, _, _, _, rfl, (Own.mono hs_s (by omega) (by omega)), hb_c, hwd, by omega, by omega, cwl11⟩

theorem c_MakeWeights {w : World} {vb : Value} {lvb uvb : Nat} {bs : List Int} (hvb : SlB w lvb uvb vb (bs)) (hb8 : ∀ j, j < bs.length → 0 ≤ bs.getD j 0 ∧ bs.getD j 0 ≤ 255) (hbl : bs.length ≤ 1048576) :
  Ret Tryd.prog 5 [vb] w fun v w' => ∃ s ws, v = s ∧ OwnI w' w.heap.size w'.heap.size s intT (ws) ∧ (Wd ws) ∧ ((ws).length ≤ 6) ∧ Chg 0 0 w w' := by
 have hvb0 := hvb.fit
 refine sx_enter Tryd.func5 rfl Tryd.ntmps5 (nbl rfl) ?_
 refine sx_seq fun K1 k1 => sx_region ?_
 refine av rfl rfl (wl_nil (q_n (k1 _ _ ?_)))
 refine sx_seq fun K2 k2 => sx_region ?_
 refine mv rfl rfl (sx_call rfl rfl Tryd.call12 (c_l01New hvb0 (by assumption) (by omega)) (fun v3 w3 p3 => ?_))
 obtain ⟨c3, h23, rfl, xc_3, hh3, hc3, cq3⟩ := p3
 have zw3 := cq3.size
 refine av rfl rfl (wl_nil (q_n (k2 _ _ ?_)))
 refine sx_seq fun K4 k4 => sx_region ?_
 refine mv rfl rfl ?_
 have f5 := hvb0.ext cq3
 refine sx_call rfl rfl Tryd.call16 (c_l12Draw xc_3 f5 (by assumption) (by omega) (by omega) (by omega)) (fun v6 w6 p6 => ?_)
 obtain ⟨s6, ws6, i26, h26, rfl, os_6, xc_6, hwd6, hwl6, hi26, c6⟩ := p6
 have zw6 := c6.size
 refine av rfl rfl (wl_nil (q_n (k4 _ _ ?_)))
 refine sx_retc ?_
 refine sx_ret1 Tryd.results5 rfl ?_
 have q7 := Chg.step (l := 0) (h := 0) (Chg.zero (l := 0) (h := 0) cq3) c6 (by omega)
 exact ⟨_, _, rfl, (Own.mono os_6 (by omega) (by omega)), by assumption, by assumption, q7⟩

theorem c_intNeg {w : World} {va : Value} {lva uva : Nat} {x : Int} (hva : Sl w lva uva va (dg x.natAbs)) (hbx : (dg x.natAbs).length ≤ 1000) :
  Ret Tryd.prog 34 [.agg #[.bool (ng x), va]] w fun v w' => ∃ s, v = .agg #[.bool (ng (-x)), s] ∧ OwnI w' w.heap.size w'.heap.size s intT (dg (-x).natAbs) ∧ Chg 0 0 w w' := by
 have hva0 := hva.fit
 refine sx_enter Tryd.func34 rfl Tryd.ntmps34 (nbl rfl) ?_
 refine sx_seq fun K1 k1 => sx_region ?_
 refine sx_box [.bool (ng x), va] rfl rfl rfl (fun b2 w3 eb2 sb2 fb2 cb2 => ?_)
 have zw3 := cb2.size
 refine sx_alloc [.bool false, (.slice none 0 0)] rfl Tryd.zeroValue25 rfl (fun b4 w5 eb4 sb4 fb4 cb4 => ?_)
 have zw5 := cb4.size
 refine wl_nil (q_n (k1 _ _ ?_))
 refine sx_seq fun K6 k6 => ?_
 have f7 := fb2.ext cb4
 have f8 := hva0.ext cb2
 have f9 := f8.ext cb4
 refine dx_region (fun w' => Chg b4 (b4 + 1) w5 w') (by kernel_rfl) (Chg.zero (Chg.drew _)) ?_
 have d10 := Chg.drew w5
 have s10 : Chg b4 (b4 + 1) w5 (World.drew w5) := Chg.zero (Chg.drew _)
 have y10 : (World.drew w5).heap.size = w5.heap.size := rfl
 generalize World.drew w5 = w10 at *
 have zw10 := d10.size
 refine dt 0 rfl rfl rfl rfl s10 (fun _ hS => px_field rfl xfld25x0) ?_
 refine dt 1 rfl rfl rfl rfl s10 (fun _ hS => px_load rfl ((f7.chg hS (by omega)).load1 rfl Tryd.isAgg4)) ?_
 refine dt 2 rfl rfl rfl rfl s10 (fun _ hS => px_not rfl) ?_
 refine dt 3 rfl rfl rfl rfl s10 (fun _ hS => px_field rfl xfld25x1) ?_
 refine dt 4 rfl rfl rfl rfl s10 (fun _ hS => px_load rfl ((f7.chg hS (by omega)).load1 rfl Tryd.isAgg23)) ?_
 refine dx_eff 5 rfl (by kernel_rfl) ?_
 have f11 := f9.ext d10
 refine sx_call rfl rfl Tryd.call21 (c_natCopy f11 (by omega)) (fun v12 w12 p12 => ?_)
 obtain ⟨s12, rfl, os_12, c12⟩ := p12
 have zw12 := c12.size
 have s13 : Chg b4 (b4 + 1) w5 w12 := (Chg.zero (l := b4) (h := (b4 + 1)) (d10.t c12))
 refine wl_nil ?_
 refine dx_next s13 ?_
 refine dx_eff 6 rfl (by kernel_rfl) ?_
 refine sx_call rfl rfl Tryd.call33 (c_signed os_12.sv (by omega)) (fun v14 w14 p14 => ?_)
 obtain ⟨rfl, c14⟩ := p14
 have zw14 := c14.size
 have s15 : Chg b4 (b4 + 1) w5 w14 := (Chg.zero (l := b4) (h := (b4 + 1)) ((d10.t c12).t c14))
 refine wl_nil ?_
 refine dx_next s15 ?_
 refine dx_eff 7 rfl (by kernel_rfl) ?_
 have f19 := ((fb4.ext d10).ext c12).ext c14
 have f20 := os_12.ext c14
 refine sx_store (vs := [.bool (nz (!(ng x)) (dg x.natAbs)), v12]) rfl rfl f19 rfl Tryd.sizeOf25 (nbl rfl) (one_cons rfl (one_cons f20.one one_nil)) (fun w16 sw16 fw16 cw16 => ?_)
 have zw16 := cw16.size
 have gw16 : Blk w16 b4 [.bool (nz (!(ng x)) (dg x.natAbs)), v12] 25 := fw16
 have q22 := Chg.step (l := b4) (h := (b4 + 1)) (Chg.zero (l := b4) (h := (b4 + 1)) ((d10.t c12).t c14)) cw16 (by omega)
 have s21 : Chg b4 (b4 + 1) w5 w16 := q22
 refine wl_nil ?_
 refine dx_next s21 ?_
 refine dx_done (by kernel_rfl) ?_
 refine q_n (k6 _ _ ?_)
 refine sx_retc ?_
 refine sx_ret1 Tryd.results34 ⟨_, rfl, gw16.loadA (vs := [.bool (nz (!(ng x)) (dg x.natAbs)), v12]) (look_lit rfl) Tryd.isAgg25 Tryd.sizeOf25⟩ ?_
 have hh := neg_sg x
 rw [← hh.1, ← hh.2]
 have q23 := Chg.step (l := 0) (h := 0) (Chg.zero (l := 0) (h := 0) ((((cb2.t cb4).t d10).t c12).t c14)) cw16 (by omega)
 have f24 := f20.chg cw16 (by omega)
 exact ⟨_, rfl, (Own.mono f24 (by omega) (by omega)), q23⟩

theorem c_iIntNegK {w : World} {va : Value} {lva uva : Nat} {x : Int} (hva : Sl w lva uva va (dg x.natAbs)) (hbx : (dg x.natAbs).length ≤ 50) :
  Ret Tryd.prog 7 [.agg #[.bool (ng x), va]] w fun v w' => ∃ s, v = .agg #[.bool (ng (-x)), s] ∧ OwnI w' w.heap.size w'.heap.size s intT (dg (-x).natAbs) ∧ Chg 0 0 w w' := by
 have hva0 := hva.fit
 refine sx_enter Tryd.func7 rfl Tryd.ntmps7 (nbl rfl) ?_
 refine sx_seq fun K1 k1 => sx_region ?_
 refine sx_box [.bool (ng x), va] rfl rfl rfl (fun b2 w3 eb2 sb2 fb2 cb2 => ?_)
 have zw3 := cb2.size
 refine sx_alloc [.bool false, (.slice none 0 0)] rfl Tryd.zeroValue25 rfl (fun b4 w5 eb4 sb4 fb4 cb4 => ?_)
 have zw5 := cb4.size
 refine wl_nil (q_n (k1 _ _ ?_))
 refine sx_seq fun K6 k6 => ?_
 refine sx_seq fun K7 k7 => sx_region ?_
 have f8 := fb2.ext cb4
 refine sp rfl (px_load rfl (f8.loadA (vs := [.bool (ng x), va]) (look_lit rfl) Tryd.isAgg25 Tryd.sizeOf25)) ?_
 have f9 := hva0.ext cb2
 have f10 := f9.ext cb4
 refine sx_call rfl rfl Tryd.call18 (c_iIntOk f10 (by omega)) (fun v11 w11 p11 => ?_)
 obtain ⟨rfl, c11⟩ := p11
 have zw11 := c11.size
 refine sp rfl (px_notP rfl) ?_
 refine wl_nil (q_n (k7 _ _ ?_))
 have h60 : ¬ (¬ (IOk (ng x) (dg x.natAbs))) := fun h => h (IOk_ng (by omega))
 refine sx_condPF rfl h60 ?_
 refine sx_skip ?_
 refine q_n (k6 _ _ ?_)
 refine sx_seq fun K12 k12 => sx_region ?_
 have f13 := f8.ext c11
 refine sp rfl (px_load rfl (f13.loadA (vs := [.bool (ng x), va]) (look_lit rfl) Tryd.isAgg25 Tryd.sizeOf25)) ?_
 have f14 := f10.ext c11
 refine sx_call rfl rfl Tryd.call34 (c_intNeg f14 (by omega)) (fun v15 w15 p15 => ?_)
 obtain ⟨s15, rfl, os_15, c15⟩ := p15
 have zw15 := c15.size
 have f18 := (fb4.ext c11).ext c15
 refine sx_store (vs := [.bool (ng (-x)), s15]) rfl rfl f18 rfl Tryd.sizeOf25 (nbl rfl) (one_cons rfl (one_cons os_15.one one_nil)) (fun w16 sw16 fw16 cw16 => ?_)
 have zw16 := cw16.size
 have gw16 : Blk w16 b4 [.bool (ng (-x)), s15] 25 := fw16
 refine wl_nil (q_n (k12 _ _ ?_))
 refine sx_retc ?_
 refine sx_ret1 Tryd.results7 ⟨_, rfl, gw16.loadA (vs := [.bool (ng (-x)), s15]) (look_lit rfl) Tryd.isAgg25 Tryd.sizeOf25⟩ ?_
 have q19 := Chg.step (l := 0) (h := 0) (Chg.zero (l := 0) (h := 0) (((cb2.t cb4).t c11).t c15)) cw16 (by omega)
 have f20 := os_15.chg cw16 (by omega)
 exact ⟨_, rfl, (Own.mono f20 (by omega) (by omega)), q19⟩

theorem c_intsOk {w : World} {n1 : Bool} {v1 : Value} {lv1 uv1 : Nat} {z1 : List Int} {n2 : Bool} {v2 : Value} {lv2 uv2 : Nat} {z2 : List Int} (hv1 : Sl w lv1 uv1 v1 (z1)) (hv2 : Sl w lv2 uv2 v2 (z2)) (h63 : z1.length ≤ 4611686018427387904 ∧ z2.length ≤ 4611686018427387904) :
  Ret Tryd.prog 39 [.agg #[.bool n1, v1], .agg #[.bool n2, v2]] w fun v w' => v = .bool (decide (IOk n1 z1 ∧ IOk n2 z2)) ∧ Chg 0 0 w w' := by
 have hv10 := hv1.fit
 have hv20 := hv2.fit
 refine sx_enter Tryd.func39 rfl Tryd.ntmps39 (nbl rfl) ?_
 refine sx_seq fun K1 k1 => sx_region ?_
 refine sx_box [.bool n1, v1] rfl rfl rfl (fun b2 w3 eb2 sb2 fb2 cb2 => ?_)
 have zw3 := cb2.size
 refine sx_box [.bool n2, v2] rfl rfl rfl (fun b4 w5 eb4 sb4 fb4 cb4 => ?_)
 have zw5 := cb4.size
 refine av rfl rfl (wl_nil (q_n (k1 _ _ ?_)))
 refine sx_seq fun K6 k6 => sx_region ?_
 have f7 := fb2.ext cb4
 refine sp rfl (px_load rfl (f7.loadA (vs := [.bool n1, v1]) (look_lit rfl) Tryd.isAgg25 Tryd.sizeOf25)) ?_
 have f8 := hv10.ext cb2
 have f9 := f8.ext cb4
 refine sx_call rfl rfl Tryd.call18 (c_iIntOk f9 (by omega)) (fun v10 w10 p10 => ?_)
 obtain ⟨rfl, c10⟩ := p10
 have zw10 := c10.size
 refine mv rfl rfl ?_
 refine sx_tmpP (t := 7) rfl (fun h13 => ?_) (fun h13 => ?_)
 ·
  refine sx_guardT rfl rfl rfl ?_
  have f11 := fb4.ext c10
  refine sp rfl (px_load rfl (f11.loadA (vs := [.bool n2, v2]) (look_lit rfl) Tryd.isAgg25 Tryd.sizeOf25)) ?_
  refine sx_guardT rfl rfl rfl ?_
  have f12 := hv20.ext cb2
  have f13 := f12.ext cb4
  have f14 := f13.ext c10
  refine sx_call rfl rfl Tryd.call18 (c_iIntOk f14 (by omega)) (fun v15 w15 p15 => ?_)
  obtain ⟨rfl, c15⟩ := p15
  have zw15 := c15.size
  refine sp rfl (px_pick rfl rfl) ?_
  refine av rfl rfl (wl_nil (q_n (k6 _ _ ?_)))
  refine sx_retc ?_
  refine sx_ret1 Tryd.results39 rfl ?_
  exact ⟨(by first | exact bTrue (by grind) | exact bFalse (by grind) | exact bIff (by grind)), (((cb2.t cb4).t c10).t c15)⟩
 refine sx_guardF rfl rfl rfl rfl rfl rfl ?_
 refine sx_guardF rfl rfl rfl rfl rfl rfl ?_
 refine sp rfl (px_pick rfl rfl) ?_
 refine av rfl rfl (wl_nil (q_n (k6 _ _ ?_)))
 refine sx_retc ?_
 refine sx_ret1 Tryd.results39 rfl ?_
 exact ⟨(by first | exact bTrue (by grind) | exact bFalse (by grind) | exact bIff (by grind)), ((cb2.t cb4).t c10)⟩

theorem c_intAdd {w : World} {va : Value} {lva uva : Nat} {x : Int} {vb : Value} {lvb uvb : Nat} {y : Int} (hva : Sl w lva uva va (dg x.natAbs)) (hvb : Sl w lvb uvb vb (dg y.natAbs)) (hbx : (dg x.natAbs).length ≤ 1000) (hby : (dg y.natAbs).length ≤ 1000) :
  Ret Tryd.prog 36 [.agg #[.bool (ng x), va], .agg #[.bool (ng y), vb]] w fun v w' => ∃ s, v = .agg #[.bool (ng (x + y)), s] ∧ OwnI w' w.heap.size w'.heap.size s intT (dg (x + y).natAbs) ∧ Chg 0 0 w w' := by
 have hva0 := hva.fit
 have hvb0 := hvb.fit
 have l2 := len_add x.natAbs y.natAbs
 have l3 := len_le (Nat.sub_le x.natAbs y.natAbs)
 have l4 := len_le (Nat.sub_le y.natAbs x.natAbs)
 refine sx_enter Tryd.func36 rfl Tryd.ntmps36 (nbl rfl) ?_
 refine sx_seq fun K1 k1 => sx_region ?_
 refine sx_box [.bool (ng x), va] rfl rfl rfl (fun b2 w3 eb2 sb2 fb2 cb2 => ?_)
 have zw3 := cb2.size
 refine sx_box [.bool (ng y), vb] rfl rfl rfl (fun b4 w5 eb4 sb4 fb4 cb4 => ?_)
 have zw5 := cb4.size
 refine sx_alloc [.bool false, (.slice none 0 0)] rfl Tryd.zeroValue25 rfl (fun b6 w7 eb6 sb6 fb6 cb6 => ?_)
 have zw7 := cb6.size
 refine wl_nil (q_n (k1 _ _ ?_))
 refine sx_seq fun K8 k8 => ?_
 refine sx_seq fun K9 k9 => sx_region ?_
 refine sp rfl (px_field rfl xfld25x0) ?_
 have f10 := fb2.ext cb4
 have f11 := f10.ext cb6
 refine sp rfl (px_load rfl (f11.load1 rfl Tryd.isAgg4)) ?_
 refine sp rfl (px_field rfl xfld25x0) ?_
 have f12 := fb4.ext cb6
 refine sp rfl (px_load rfl (f12.load1 rfl Tryd.isAgg4)) ?_
 refine sp rfl (px_eqB Tryd.underlying4 rfl rfl) ?_
 refine wl_nil (q_n (k9 _ _ ?_))
 refine sx_condB rfl (fun h46 => ?_) (fun h46 => ?_)
 ·
  refine sx_seq fun K13 k13 => ?_
  have f14 := hva0.ext cb2
  have f15 := f14.ext cb4
  have f16 := f15.ext cb6
  have f17 := hvb0.ext cb2
  have f18 := f17.ext cb4
  have f19 := f18.ext cb6
  refine dx_region (fun w' => Chg b6 (b6 + 1) w7 w') (by kernel_rfl) (Chg.zero (Chg.drew _)) ?_
  have d20 := Chg.drew w7
  have s20 : Chg b6 (b6 + 1) w7 (World.drew w7) := Chg.zero (Chg.drew _)
  have y20 : (World.drew w7).heap.size = w7.heap.size := rfl
  generalize World.drew w7 = w20 at *
  have zw20 := d20.size
  refine dt 0 rfl rfl rfl rfl s20 (fun _ hS => px_field rfl xfld25x0) ?_
  refine dt 1 rfl rfl rfl rfl s20 (fun _ hS => px_load rfl ((f11.chg hS (by omega)).load1 rfl Tryd.isAgg4)) ?_
  refine dt 2 rfl rfl rfl rfl s20 (fun _ hS => px_field rfl xfld25x1) ?_
  refine dt 3 rfl rfl rfl rfl s20 (fun _ hS => px_load rfl ((f11.chg hS (by omega)).load1 rfl Tryd.isAgg23)) ?_
  refine dt 4 rfl rfl rfl rfl s20 (fun _ hS => px_field rfl xfld25x1) ?_
  refine dt 5 rfl rfl rfl rfl s20 (fun _ hS => px_load rfl ((f12.chg hS (by omega)).load1 rfl Tryd.isAgg23)) ?_
  refine dx_eff 6 rfl (by kernel_rfl) ?_
  have f21 := f16.ext d20
  have f22 := f19.ext d20
  refine sx_call rfl rfl Tryd.call32 (c_natAdd f21 f22 (by omega) (by omega)) (fun v23 w23 p23 => ?_)
  obtain ⟨s23, rfl, os_23, c23⟩ := p23
  have zw23 := c23.size
  have s24 : Chg b6 (b6 + 1) w7 w23 := (Chg.zero (l := b6) (h := (b6 + 1)) (d20.t c23))
  refine wl_nil ?_
  refine dx_next s24 ?_
  refine dx_eff 7 rfl (by kernel_rfl) ?_
  refine sx_call rfl rfl Tryd.call33 (c_signed os_23.sv (by omega)) (fun v25 w25 p25 => ?_)
  obtain ⟨rfl, c25⟩ := p25
  have zw25 := c25.size
  have s26 : Chg b6 (b6 + 1) w7 w25 := (Chg.zero (l := b6) (h := (b6 + 1)) ((d20.t c23).t c25))
  refine wl_nil ?_
  refine dx_next s26 ?_
  refine dx_eff 8 rfl (by kernel_rfl) ?_
  have f30 := ((fb6.ext d20).ext c23).ext c25
  have f31 := os_23.ext c25
  refine sx_store (vs := [.bool (nz (ng x) (dg (x.natAbs + y.natAbs))), v23]) rfl rfl f30 rfl Tryd.sizeOf25 (nbl rfl) (one_cons rfl (one_cons f31.one one_nil)) (fun w27 sw27 fw27 cw27 => ?_)
  have zw27 := cw27.size
  have gw27 : Blk w27 b6 [.bool (nz (ng x) (dg (x.natAbs + y.natAbs))), v23] 25 := fw27
  have q33 := Chg.step (l := b6) (h := (b6 + 1)) (Chg.zero (l := b6) (h := (b6 + 1)) ((d20.t c23).t c25)) cw27 (by omega)
  have s32 : Chg b6 (b6 + 1) w7 w27 := q33
  refine wl_nil ?_
  refine dx_next s32 ?_
  refine dx_done (by kernel_rfl) ?_
  refine q_n (k13 _ _ ?_)
  refine sx_sub (Sub.c 2 rfl (.c 3 rfl (.c 4 rfl .nil))) ?_
  refine sx_retc ?_
  refine q_r (sx_ret1 Tryd.results36 ⟨_, rfl, gw27.loadA (vs := [.bool (nz (ng x) (dg (x.natAbs + y.natAbs))), v23]) (look_lit rfl) Tryd.isAgg25 Tryd.sizeOf25⟩ ?_)
  have hh := add_sg h46
  rw [← hh.1, ← hh.2]
  have f34 := f31.chg cw27 (by omega)
  have q35 := Chg.step (l := 0) (h := 0) (Chg.zero (l := 0) (h := 0) (((((cb2.t cb4).t cb6).t d20).t c23).t c25)) cw27 (by omega)
  exact ⟨_, rfl, (Own.mono f34 (by omega) (by omega)), q35⟩
 refine sx_skip ?_
 refine q_n (k8 _ _ ?_)
 refine sx_seq fun K36 k36 => ?_
 refine sx_seq fun K37 k37 => sx_region ?_
 refine sp rfl (px_field rfl xfld25x1) ?_
 refine sp rfl (px_load rfl (f11.load1 rfl Tryd.isAgg23)) ?_
 refine sp rfl (px_field rfl xfld25x1) ?_
 refine sp rfl (px_load rfl (f12.load1 rfl Tryd.isAgg23)) ?_
 have f38 := hva0.ext cb2
 have f39 := f38.ext cb4
 have f40 := f39.ext cb6
 have f41 := hvb0.ext cb2
 have f42 := f41.ext cb4
 have f43 := f42.ext cb6
 refine sx_call rfl rfl Tryd.call29 (c_natCmp f40 f43 (by omega)) (fun v44 w44 p44 => ?_)
 obtain ⟨rfl, c44⟩ := p44
 have zw44 := c44.size
 refine sp rfl (px_lt rfl rfl) ?_
 refine wl_nil (q_n (k37 _ _ ?_))
 refine sx_sub (Sub.c 2 rfl (.c 3 rfl (.c 4 rfl (.c 23 rfl .nil)))) ?_
 refine sx_condP rfl (fun h49 => ?_) (fun h49 => ?_)
 ·
  rw [cmpL_dg] at h49
  have hlt := cmpN_neg.1 h49
  refine sx_region ?_
  have f45 := f12.ext c44
  refine sp rfl (px_load rfl (f45.loadA (vs := [.bool (ng y), vb]) (look_lit rfl) Tryd.isAgg25 Tryd.sizeOf25)) ?_
  have f46 := f11.ext c44
  refine sp rfl (px_load rfl (f46.loadA (vs := [.bool (ng x), va]) (look_lit rfl) Tryd.isAgg25 Tryd.sizeOf25)) ?_
  have f48 := f43.ext c44
  refine sx_store (vs := [.bool (ng y), vb]) rfl rfl f46 rfl Tryd.sizeOf25 (nbl rfl) (one_cons rfl (one_cons f48.one one_nil)) (fun w47 sw47 fw47 cw47 => ?_)
  have zw47 := cw47.size
  have gw47 : Blk w47 b2 [.bool (ng y), vb] 25 := fw47
  have f50 := f45.chg cw47 (by omega)
  have f52 := (f40.ext c44).chg cw47 (by omega)
  refine sx_store (vs := [.bool (ng x), va]) rfl rfl f50 rfl Tryd.sizeOf25 (nbl rfl) (one_cons rfl (one_cons f52.one one_nil)) (fun w49 sw49 fw49 cw49 => ?_)
  have zw49 := cw49.size
  have gw49 : Blk w49 b4 [.bool (ng x), va] 25 := fw49
  refine wl_nil (q_n (k36 _ _ ?_))
  refine sx_seq fun K53 k53 => ?_
  have f54 := gw47.chg cw49 (by omega)
  have f55 := f52.chg cw49 (by omega)
  have f56 := f48.chg cw47 (by omega)
  have f57 := f56.chg cw49 (by omega)
  refine dx_region (fun w' => Chg b6 (b6 + 1) w49 w') (by kernel_rfl) (Chg.zero (Chg.drew _)) ?_
  have d58 := Chg.drew w49
  have s58 : Chg b6 (b6 + 1) w49 (World.drew w49) := Chg.zero (Chg.drew _)
  have y58 : (World.drew w49).heap.size = w49.heap.size := rfl
  generalize World.drew w49 = w58 at *
  have zw58 := d58.size
  refine dt 0 rfl rfl rfl rfl s58 (fun _ hS => px_field rfl xfld25x0) ?_
  refine dt 1 rfl rfl rfl rfl s58 (fun _ hS => px_load rfl ((f54.chg hS (by omega)).load1 rfl Tryd.isAgg4)) ?_
  refine dt 2 rfl rfl rfl rfl s58 (fun _ hS => px_field rfl xfld25x1) ?_
  refine dt 3 rfl rfl rfl rfl s58 (fun _ hS => px_load rfl ((f54.chg hS (by omega)).load1 rfl Tryd.isAgg23)) ?_
  refine dt 4 rfl rfl rfl rfl s58 (fun _ hS => px_field rfl xfld25x1) ?_
  refine dt 5 rfl rfl rfl rfl s58 (fun _ hS => px_load rfl ((gw49.chg hS (by omega)).load1 rfl Tryd.isAgg23)) ?_
  refine dx_eff 6 rfl (by kernel_rfl) ?_
  have f59 := f57.ext d58
  have f60 := f55.ext d58
  refine sx_call rfl rfl Tryd.call25 (c_natSub f59 f60 (by omega) (by omega) (by omega)) (fun v61 w61 p61 => ?_)
  obtain ⟨s61, rfl, os_61, c61⟩ := p61
  have zw61 := c61.size
  have s62 : Chg b6 (b6 + 1) w49 w61 := (Chg.zero (l := b6) (h := (b6 + 1)) (d58.t c61))
  refine wl_nil ?_
  refine dx_next s62 ?_
  refine dx_eff 7 rfl (by kernel_rfl) ?_
  refine sx_call rfl rfl Tryd.call33 (c_signed os_61.sv (by omega)) (fun v63 w63 p63 => ?_)
  obtain ⟨rfl, c63⟩ := p63
  have zw63 := c63.size
  have s64 : Chg b6 (b6 + 1) w49 w63 := (Chg.zero (l := b6) (h := (b6 + 1)) ((d58.t c61).t c63))
  refine wl_nil ?_
  refine dx_next s64 ?_
  refine dx_eff 8 rfl (by kernel_rfl) ?_
  have f67 := (fb6.ext c44).chg cw47 (by omega)
  have f68 := f67.chg cw49 (by omega)
  have f71 := ((f68.ext d58).ext c61).ext c63
  have f72 := os_61.ext c63
  refine sx_store (vs := [.bool (nz (ng y) (dg (y.natAbs - x.natAbs))), v61]) rfl rfl f71 rfl Tryd.sizeOf25 (nbl rfl) (one_cons rfl (one_cons f72.one one_nil)) (fun w65 sw65 fw65 cw65 => ?_)
  have zw65 := cw65.size
  have gw65 : Blk w65 b6 [.bool (nz (ng y) (dg (y.natAbs - x.natAbs))), v61] 25 := fw65
  have q74 := Chg.step (l := b6) (h := (b6 + 1)) (Chg.zero (l := b6) (h := (b6 + 1)) ((d58.t c61).t c63)) cw65 (by omega)
  have s73 : Chg b6 (b6 + 1) w49 w65 := q74
  refine wl_nil ?_
  refine dx_next s73 ?_
  refine dx_done (by kernel_rfl) ?_
  refine q_n (k53 _ _ ?_)
  refine sx_retc ?_
  refine sx_ret1 Tryd.results36 ⟨_, rfl, gw65.loadA (vs := [.bool (nz (ng y) (dg (y.natAbs - x.natAbs))), v61]) (look_lit rfl) Tryd.isAgg25 Tryd.sizeOf25⟩ ?_
  have hh := (sub_sg2 h46 (by omega))
  rw [← hh.1, ← hh.2]
  have f75 := f72.chg cw65 (by omega)
  have q76 := Chg.step (l := 0) (h := 0) (Chg.zero (l := 0) (h := 0) (((cb2.t cb4).t cb6).t c44)) cw47 (by omega)
  have q77 := Chg.step (l := 0) (h := 0) q76 cw49 (by omega)
  have q78 := Chg.step (l := 0) (h := 0) q77 ((d58.t c61).t c63) (by omega)
  have q79 := Chg.step (l := 0) (h := 0) q78 cw65 (by omega)
  exact ⟨_, rfl, (Own.mono f75 (by omega) (by omega)), q79⟩
 rw [cmpL_dg] at h49
 have hge := cmpN_nonneg.1 (Int.not_lt.1 h49)
 refine sx_skip ?_
 refine q_n (k36 _ _ ?_)
 refine sx_seq fun K80 k80 => ?_
 have f81 := f11.ext c44
 have f82 := f12.ext c44
 refine dx_region (fun w' => Chg b6 (b6 + 1) w44 w') (by kernel_rfl) (Chg.zero (Chg.drew _)) ?_
 have d85 := Chg.drew w44
 have s85 : Chg b6 (b6 + 1) w44 (World.drew w44) := Chg.zero (Chg.drew _)
 have y85 : (World.drew w44).heap.size = w44.heap.size := rfl
 generalize World.drew w44 = w85 at *
 have zw85 := d85.size
 refine dt 0 rfl rfl rfl rfl s85 (fun _ hS => px_field rfl xfld25x0) ?_
 refine dt 1 rfl rfl rfl rfl s85 (fun _ hS => px_load rfl ((f81.chg hS (by omega)).load1 rfl Tryd.isAgg4)) ?_
 refine dt 2 rfl rfl rfl rfl s85 (fun _ hS => px_field rfl xfld25x1) ?_
 refine dt 3 rfl rfl rfl rfl s85 (fun _ hS => px_load rfl ((f81.chg hS (by omega)).load1 rfl Tryd.isAgg23)) ?_
 refine dt 4 rfl rfl rfl rfl s85 (fun _ hS => px_field rfl xfld25x1) ?_
 refine dt 5 rfl rfl rfl rfl s85 (fun _ hS => px_load rfl ((f82.chg hS (by omega)).load1 rfl Tryd.isAgg23)) ?_
 refine dx_eff 6 rfl (by kernel_rfl) ?_
 have f86 := (f40.ext c44).ext d85
 have f87 := (f43.ext c44).ext d85
 refine sx_call rfl rfl Tryd.call25 (c_natSub f86 f87 (by omega) (by omega) (by omega)) (fun v88 w88 p88 => ?_)
 obtain ⟨s88, rfl, os_88, c88⟩ := p88
 have zw88 := c88.size
 have s89 : Chg b6 (b6 + 1) w44 w88 := (Chg.zero (l := b6) (h := (b6 + 1)) (d85.t c88))
 refine wl_nil ?_
 refine dx_next s89 ?_
 refine dx_eff 7 rfl (by kernel_rfl) ?_
 refine sx_call rfl rfl Tryd.call33 (c_signed os_88.sv (by omega)) (fun v90 w90 p90 => ?_)
 obtain ⟨rfl, c90⟩ := p90
 have zw90 := c90.size
 have s91 : Chg b6 (b6 + 1) w44 w90 := (Chg.zero (l := b6) (h := (b6 + 1)) ((d85.t c88).t c90))
 refine wl_nil ?_
 refine dx_next s91 ?_
 refine dx_eff 8 rfl (by kernel_rfl) ?_
 have f96 := (((fb6.ext c44).ext d85).ext c88).ext c90
 have f97 := os_88.ext c90
 refine sx_store (vs := [.bool (nz (ng x) (dg (x.natAbs - y.natAbs))), v88]) rfl rfl f96 rfl Tryd.sizeOf25 (nbl rfl) (one_cons rfl (one_cons f97.one one_nil)) (fun w92 sw92 fw92 cw92 => ?_)
 have zw92 := cw92.size
 have gw92 : Blk w92 b6 [.bool (nz (ng x) (dg (x.natAbs - y.natAbs))), v88] 25 := fw92
 have q99 := Chg.step (l := b6) (h := (b6 + 1)) (Chg.zero (l := b6) (h := (b6 + 1)) ((d85.t c88).t c90)) cw92 (by omega)
 have s98 : Chg b6 (b6 + 1) w44 w92 := q99
 refine wl_nil ?_
 refine dx_next s98 ?_
 refine dx_done (by kernel_rfl) ?_
 refine q_n (k80 _ _ ?_)
 refine sx_retc ?_
 refine sx_ret1 Tryd.results36 ⟨_, rfl, gw92.loadA (vs := [.bool (nz (ng x) (dg (x.natAbs - y.natAbs))), v88]) (look_lit rfl) Tryd.isAgg25 Tryd.sizeOf25⟩ ?_
 have hh := sub_sg h46 hge
 rw [← hh.1, ← hh.2]
 have f100 := f97.chg cw92 (by omega)
 have q101 := Chg.step (l := 0) (h := 0) (Chg.zero (l := 0) (h := 0) ((((((cb2.t cb4).t cb6).t c44).t d85).t c88).t c90)) cw92 (by omega)
 exact ⟨_, rfl, (Own.mono f100 (by omega) (by omega)), q101⟩

theorem c_intSign {w : World} {va : Value} {lva uva : Nat} {x : Int} (hva : Sl w lva uva va (dg x.natAbs)) (hbx : (dg x.natAbs).length ≤ 1000) :
  Ret Tryd.prog 59 [.agg #[.bool (ng x), va]] w fun v w' => v = .int .i64 ((x).sign) ∧ Chg 0 0 w w' := by
 have hva0 := hva.fit
 refine sx_enter Tryd.func59 rfl Tryd.ntmps59 (nbl rfl) ?_
 refine sx_seq fun K1 k1 => sx_region ?_
 refine sx_box [.bool (ng x), va] rfl rfl rfl (fun b2 w3 eb2 sb2 fb2 cb2 => ?_)
 have zw3 := cb2.size
 refine av rfl rfl (wl_nil (q_n (k1 _ _ ?_)))
 refine sx_seq fun K4 k4 => ?_
 refine sx_block ?_
 refine sx_seq fun K5 k5 => sx_region ?_
 refine sp rfl (px_field rfl xfld25x1) ?_
 refine sp rfl (px_load rfl (fb2.load1 rfl Tryd.isAgg23)) ?_
 have f6 := hva0.ext cb2
 refine sp rfl (px_len rfl Tryd.underlying23 f6) ?_
 refine sp rfl (px_eq rfl rfl) ?_
 refine av rfl rfl (wl_nil (q_n (k5 _ _ ?_)))
 refine sx_condP rfl (fun h101 => ?_) (fun h101 => ?_)
 ·
  refine sx_seq fun K7 k7 => sx_region ?_
  refine av rfl rfl (wl_nil (q_n (k7 _ _ ?_)))
  refine sx_retc ?_
  refine q_br (q_r (sx_ret1 Tryd.results59 rfl ?_))
  exact ⟨(by rw [sign_z (by omega)]), cb2⟩
 refine sx_seq fun K8 k8 => sx_region ?_
 refine sp rfl (px_field rfl xfld25x0) ?_
 refine sp rfl (px_load rfl (fb2.load1 rfl Tryd.isAgg4)) ?_
 refine av rfl rfl (wl_nil (q_n (k8 _ _ ?_)))
 refine sx_condB rfl (fun h103 => ?_) (fun h103 => ?_)
 ·
  refine sx_seq fun K9 k9 => sx_region ?_
  refine av rfl rfl (wl_nil (q_n (k9 _ _ ?_)))
  refine sx_retc ?_
  refine q_br (q_r (sx_ret1 Tryd.results59 rfl ?_))
  exact ⟨(by rw [sign_n h103]), cb2⟩
 refine sx_skip ?_
 refine q_bn (q_n (k4 _ _ ?_))
 refine sx_seq fun K10 k10 => sx_region ?_
 refine av rfl rfl (wl_nil (q_n (k10 _ _ ?_)))
 refine sx_retc ?_
 refine sx_ret1 Tryd.results59 rfl ?_
 exact ⟨(by rw [sign_p (by omega) h103]), cb2⟩

theorem c_intCmp {w : World} {va : Value} {lva uva : Nat} {x : Int} {vb : Value} {lvb uvb : Nat} {y : Int} (hva : Sl w lva uva va (dg x.natAbs)) (hvb : Sl w lvb uvb vb (dg y.natAbs)) (hbx : (dg x.natAbs).length ≤ 900) (hby : (dg y.natAbs).length ≤ 900) :
  Ret Tryd.prog 40 [.agg #[.bool (ng x), va], .agg #[.bool (ng y), vb]] w fun v w' => v = .int .i64 (cmpI x y) ∧ Chg 0 0 w w' := by
 have hva0 := hva.fit
 have hvb0 := hvb.fit
 refine sx_enter Tryd.func40 rfl Tryd.ntmps40 (nbl rfl) ?_
 refine sx_seq fun K1 k1 => sx_region ?_
 refine sx_box [.bool (ng x), va] rfl rfl rfl (fun b2 w3 eb2 sb2 fb2 cb2 => ?_)
 have zw3 := cb2.size
 refine sx_box [.bool (ng y), vb] rfl rfl rfl (fun b4 w5 eb4 sb4 fb4 cb4 => ?_)
 have zw5 := cb4.size
 refine av rfl rfl (wl_nil (q_n (k1 _ _ ?_)))
 refine sx_seq fun K6 k6 => ?_
 have f7 := fb2.ext cb4
 have f8 := hva0.ext cb2
 have f9 := f8.ext cb4
 have f10 := hvb0.ext cb2
 have f11 := f10.ext cb4
 refine dx_region (fun w' => Chg 0 0 w5 w') (by kernel_rfl) (Chg.zero (Chg.drew _)) ?_
 have d12 := Chg.drew w5
 have s12 : Chg 0 0 w5 (World.drew w5) := Chg.zero (Chg.drew _)
 have y12 : (World.drew w5).heap.size = w5.heap.size := rfl
 generalize World.drew w5 = w12 at *
 have zw12 := d12.size
 refine dt 0 rfl rfl rfl rfl s12 (fun _ hS => px_load rfl ((f7.chg hS (by omega)).loadA (vs := [.bool (ng x), va]) (look_lit rfl) Tryd.isAgg25 Tryd.sizeOf25)) ?_
 refine dt 1 rfl rfl rfl rfl s12 (fun _ hS => px_load rfl ((fb4.chg hS (by omega)).loadA (vs := [.bool (ng y), vb]) (look_lit rfl) Tryd.isAgg25 Tryd.sizeOf25)) ?_
 refine dx_eff 2 rfl (by kernel_rfl) ?_
 have f13 := f11.ext d12
 refine sx_call rfl rfl Tryd.call34 (c_intNeg f13 (by omega)) (fun v14 w14 p14 => ?_)
 obtain ⟨s14, rfl, os_14, c14⟩ := p14
 have zw14 := c14.size
 have s15 : Chg 0 0 w5 w14 := (d12.t c14)
 refine wl_nil ?_
 refine dx_next s15 ?_
 refine dx_eff 3 rfl (by kernel_rfl) ?_
 have f17 := (f9.ext d12).ext c14
 refine sx_call rfl rfl Tryd.call36 (c_intAdd f17 os_14.sv (by omega) (by rw [Int.natAbs_neg]; omega)) (fun v18 w18 p18 => ?_)
 obtain ⟨s18, rfl, os_18, c18⟩ := p18
 have zw18 := c18.size
 have s19 : Chg 0 0 w5 w18 := ((d12.t c14).t c18)
 refine wl_nil ?_
 refine dx_next s19 ?_
 refine dx_eff 4 rfl (by kernel_rfl) ?_
 refine sx_call rfl rfl Tryd.call59 (c_intSign os_18.sv (by have h := len_addI x (-y); rw [Int.natAbs_neg] at h; omega)) (fun v20 w20 p20 => ?_)
 obtain ⟨rfl, c20⟩ := p20
 have zw20 := c20.size
 have s21 : Chg 0 0 w5 w20 := (((d12.t c14).t c18).t c20)
 refine wl_nil ?_
 refine dx_next s21 ?_
 refine dt 5 rfl rfl rfl rfl s21 (fun _ hS => px_assign rfl) ?_
 refine dx_done (by kernel_rfl) ?_
 refine q_n (k6 _ _ ?_)
 refine sx_retc ?_
 refine sx_ret1 Tryd.results40 rfl ?_
 exact ⟨(by rw [cmpI_sign]), (((((cb2.t cb4).t d12).t c14).t c18).t c20)⟩

theorem c_iIntCmpK {w : World} {va : Value} {lva uva : Nat} {x : Int} {vb : Value} {lvb uvb : Nat} {y : Int} (hva : Sl w lva uva va (dg x.natAbs)) (hvb : Sl w lvb uvb vb (dg y.natAbs)) (hbx : (dg x.natAbs).length ≤ 50) (hby : (dg y.natAbs).length ≤ 50) :
  Ret Tryd.prog 11 [.agg #[.bool (ng x), va], .agg #[.bool (ng y), vb]] w fun v w' => v = .int .i64 (cmpI x y) ∧ Chg 0 0 w w' := by
 have hva0 := hva.fit
 have hvb0 := hvb.fit
 refine sx_enter Tryd.func11 rfl Tryd.ntmps11 (nbl rfl) ?_
 refine sx_seq fun K1 k1 => sx_region ?_
 refine sx_box [.bool (ng x), va] rfl rfl rfl (fun b2 w3 eb2 sb2 fb2 cb2 => ?_)
 have zw3 := cb2.size
 refine sx_box [.bool (ng y), vb] rfl rfl rfl (fun b4 w5 eb4 sb4 fb4 cb4 => ?_)
 have zw5 := cb4.size
 refine av rfl rfl (wl_nil (q_n (k1 _ _ ?_)))
 refine sx_seq fun K6 k6 => ?_
 refine sx_seq fun K7 k7 => sx_region ?_
 have f8 := fb2.ext cb4
 refine sp rfl (px_load rfl (f8.loadA (vs := [.bool (ng x), va]) (look_lit rfl) Tryd.isAgg25 Tryd.sizeOf25)) ?_
 refine sp rfl (px_load rfl (fb4.loadA (vs := [.bool (ng y), vb]) (look_lit rfl) Tryd.isAgg25 Tryd.sizeOf25)) ?_
 have f9 := hva0.ext cb2
 have f10 := f9.ext cb4
 have f11 := hvb0.ext cb2
 have f12 := f11.ext cb4
 refine sx_call rfl rfl Tryd.call39 (c_intsOk f10 f12 (by omega)) (fun v13 w13 p13 => ?_)
 obtain ⟨rfl, c13⟩ := p13
 have zw13 := c13.size
 refine sp rfl (px_notP rfl) ?_
 refine wl_nil (q_n (k7 _ _ ?_))
 have h114 : ¬ (¬ (IOk (ng x) (dg x.natAbs) ∧ IOk (ng y) (dg y.natAbs))) := fun h => h ⟨IOk_ng (by omega), IOk_ng (by omega)⟩
 refine sx_condPF rfl h114 ?_
 refine sx_skip ?_
 refine q_n (k6 _ _ ?_)
 refine sx_seq fun K14 k14 => sx_region ?_
 have f15 := f8.ext c13
 refine sp rfl (px_load rfl (f15.loadA (vs := [.bool (ng x), va]) (look_lit rfl) Tryd.isAgg25 Tryd.sizeOf25)) ?_
 have f16 := fb4.ext c13
 refine sp rfl (px_load rfl (f16.loadA (vs := [.bool (ng y), vb]) (look_lit rfl) Tryd.isAgg25 Tryd.sizeOf25)) ?_
 have f17 := f10.ext c13
 have f18 := f12.ext c13
 refine sx_call rfl rfl Tryd.call40 (c_intCmp f17 f18 (by omega) (by omega)) (fun v19 w19 p19 => ?_)
 obtain ⟨rfl, c19⟩ := p19
 have zw19 := c19.size
 refine av rfl rfl (wl_nil (q_n (k14 _ _ ?_)))
 refine sx_retc ?_
 refine sx_ret1 Tryd.results11 rfl ?_
 exact ⟨rfl, (((cb2.t cb4).t c13).t c19)⟩

end Go.Proofs.YtjkeefmpjocilaaDoor
