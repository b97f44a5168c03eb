/- Contracts of functions of the program: what each call returns, and that it changes nothing that was. Conditions: as each says. -/
import Derived.Test.YtjkeefmpjocilaaTy
import Derived.Test.YtjkeefmpjocilaaNatI
import Derived.Test.YtjkeefmpjocilaaSxW
import Derived.Test.YtjkeefmpjocilaaSxQ
import Derived.Test.YtjkeefmpjocilaaSxR
import Derived.Test.YtjkeefmpjocilaaSxP
import Derived.Test.YtjkeefmpjocilaaRm
import Derived.Test.YtjkeefmpjocilaaL2
import Derived.Test.YtjkeefmpjocilaaL3
import Derived.Test.YtjkeefmpjocilaaL4
import Derived.Test.YtjkeefmpjocilaaL5
import Derived.Test.YtjkeefmpjocilaaNatSk
set_option linter.unusedVariables false
set_option linter.unusedSimpArgs false
namespace Go.Proofs.Ytjkeefmpjocilaa
open Go Go.RowKit
set_option maxRecDepth 100000
set_option maxHeartbeats 1000000
theorem law_FnShares {w : World} {vb : Value} {lvb uvb : Nat} {bs : List Int} (hvb : SlB w lvb uvb vb (bs)) (hb8 : ∀ j, j < bs.length → 0 ≤ bs.getD j 0 ∧ bs.getD j 0 ≤ 255) (hbs : bs.length ≤ 9223372036854775807) :
  Ret Try.prog 3 [vb] w fun v w' => v = .bool (true) ∧ Chg 0 0 w w' := by
 have hvb0 := hvb.fit
 refine sx_enter Try.func3 rfl Try.ntmps3 (nbl rfl) ?_
 refine sx_seq fun K1 k1 => sx_region ?_
 refine av rfl rfl (wl_nil (q_n (k1 _ _ ?_)))
 refine sx_seq fun K2 k2 => ?_
 refine sx_seq fun K3 k3 => sx_region ?_
 refine mv rfl rfl (sp rfl (px_len rfl Try.underlying22 hvb0) ?_)
 refine sp rfl (px_gt rfl rfl) ?_
 refine wl_nil (q_n (k3 _ _ ?_))
 refine sx_condP rfl (fun h171 => ?_) (fun h171 => ?_)
 ·
  refine sx_seq fun K4 k4 => sx_region ?_
  refine av rfl rfl (wl_nil (q_n (k4 _ _ ?_)))
  refine sx_retc ?_
  refine q_r (sx_ret1 Try.results3 rfl ?_)
  exact ⟨rfl, (Chg.refl 0 0 _)⟩
 refine sx_skip ?_
 refine q_n (k2 _ _ ?_)
 refine sx_seq fun K5 k5 => sx_region ?_
 refine mv rfl rfl (sx_call rfl rfl Try.call5 (c_MakeInt hvb0 (by assumption) (by omega)) (fun v6 w6 p6 => ?_))
 obtain ⟨s6, x6, rfl, os_6, hx6, c6⟩ := p6
 have zw6 := c6.size
 have hx3 := hx6
 refine sx_alloc [.bool false, (.slice none 0 0)] rfl Try.zeroValue25 rfl (fun b7 w8 eb7 sb7 fb7 cb7 => ?_)
 have zw8 := cb7.size
 have f10 := os_6.ext cb7
 refine sx_store (vs := [.bool (ng x6), s6]) rfl rfl fb7 rfl Try.sizeOf25 (nbl rfl) (one_cons rfl (one_cons f10.one one_nil)) (fun w9 sw9 fw9 cw9 => ?_)
 have zw9 := cw9.size
 have gw9 : Blk w9 b7 [.bool (ng x6), s6] 25 := fw9
 refine wl_nil (q_n (k5 _ _ ?_))
 refine sx_seq fun K11 k11 => sx_region ?_
 refine mv rfl rfl ?_
 have f13 := (hvb0.ext c6).ext cb7
 have f14 := f13.chg cw9 (by omega)
 refine sx_call rfl rfl Try.call6 (c_MakeWeights f14 (by assumption) (by omega)) (fun v15 w15 p15 => ?_)
 obtain ⟨s15, ws15, rfl, os_15, hwd15, hwl15, c15⟩ := p15
 have zw15 := c15.size
 have hWd := hwd15
 have hwl6 := hwl15
 have hW := Wd_ok hWd (by omega)
 have hslen := fun x => shrs_len (x := x) (ws := ws15)
 refine av rfl rfl (wl_nil (q_n (k11 _ _ ?_)))
 refine sx_seq fun K16 k16 => sx_region ?_
 have f17 := gw9.ext c15
 refine sp rfl (px_load rfl (f17.loadA (vs := [.bool (ng x6), s6]) (look_lit rfl) Try.isAgg25 Try.sizeOf25)) ?_
 refine mv rfl rfl ?_
 have f18 := f10.chg cw9 (by omega)
 have f19 := f18.ext c15
 refine sx_call rfl rfl Try.call7 (c_iShares f19.sv os_15.sv (by assumption) (by omega) (by omega)) (fun v20 w20 p20 => ?_)
 obtain ⟨s20, us20, rfl, os_20, hix20, c20⟩ := p20
 have zw20 := c20.size
 have hixx := hix20
 have hsum : (shrs (x6) ws15).sum = (x6) := by obtain ⟨ix, hP, hs⟩ := hixx; exact shr_sum hW hP hs
 have hsl3 : (dg ((shrs (x6) ws15).sum).natAbs).length ≤ 3 := by rw [hsum]; exact hx3
 have hsb : ∀ j, j < (ws15).length → (dg ((shrs (x6) ws15).getD j 0).natAbs).length ≤ 10 := fun j hj => by rw [shrs_get hj, shr_abs]; exact Nat.le_trans (mg_len hW hj hx3) (by decide)
 have hsn : (shrs (x6) ws15).length = (ws15).length := shrs_len
 refine mv rfl rfl (sp rfl (px_ex2 rfl rfl) ?_)
 refine sp rfl (px_ex2 rfl rfl) ?_
 refine av rfl rfl (av rfl rfl (wl_nil (q_n (k16 _ _ ?_))))
 refine sx_sub (Sub.c 2 rfl (.c 3 rfl (.c 4 rfl (.c 5 rfl (.c 6 rfl .nil))))) ?_
 refine sx_seq fun K21 k21 => ?_
 refine sx_seq fun K22 k22 => ?_
 have f23 := f17.ext c20
 have f25 := (f14.ext c15).ext c20
 have f27 := os_15.ext c20
 refine dx_region (fun w' => Chg 0 0 w20 w') (by kernel_rfl) (Chg.zero (Chg.drew _)) ?_
 have d28 := Chg.drew w20
 have s28 : Chg 0 0 w20 (World.drew w20) := Chg.zero (Chg.drew _)
 have y28 : (World.drew w20).heap.size = w20.heap.size := rfl
 generalize World.drew w20 = w28 at *
 have zw28 := d28.size
 refine dt 0 rfl rfl rfl rfl s28 (fun _ hS => px_move rfl) ?_
 refine dt 1 rfl rfl rfl rfl s28 (fun _ hS => px_not rfl) ?_
 refine dt 2 rfl rfl rfl rfl s28 (fun _ hS => px_move rfl) ?_
 refine dx_takeG 3 rfl rfl rfl rfl rfl rfl (by kernel_rfl) (by kernel_rfl) (by kernel_rfl) s28 (fun _ hS => px_move rfl) ?_
 refine dx_takeG 4 rfl rfl rfl rfl rfl rfl (by kernel_rfl) (by kernel_rfl) (by kernel_rfl) s28 (fun _ hS => px_len rfl Try.underlying28 ((os_20.sv).chg hS (by omega))) ?_
 refine dx_takeG 5 rfl rfl rfl rfl rfl rfl (by kernel_rfl) (by kernel_rfl) (by kernel_rfl) s28 (fun _ hS => px_move rfl) ?_
 refine dx_takeG 6 rfl rfl rfl rfl rfl rfl (by kernel_rfl) (by kernel_rfl) (by kernel_rfl) s28 (fun _ hS => px_len rfl Try.underlying23 ((f27.sv).chg hS (by omega))) ?_
 refine dx_takeG 7 rfl rfl rfl rfl rfl rfl (by kernel_rfl) (by kernel_rfl) (by kernel_rfl) s28 (fun _ hS => px_ne rfl rfl) ?_
 refine dt 8 rfl rfl rfl rfl s28 (fun _ hS => px_pick rfl rfl) ?_
 refine dt 9 rfl rfl rfl rfl s28 (fun _ hS => px_move rfl) ?_
 have h177 : ¬ ((↑((shrs (x6) ws15).length) : Int) ≠ ↑((ws15).length)) := fun h => h (by rw [hsn])
 refine dx_tmpPF (t := 45) rfl h177 ?_
 refine dx_takeG 10 rfl rfl rfl rfl rfl rfl (by kernel_rfl) (by kernel_rfl) (by kernel_rfl) s28 (fun _ hS => px_move rfl) ?_
 refine dx_takeG 12 rfl rfl rfl rfl rfl rfl (by kernel_rfl) (by kernel_rfl) (by kernel_rfl) s28 (fun _ hS => px_load rfl ((f23.chg hS (by omega)).loadA (vs := [.bool (ng x6), s6]) (look_lit rfl) Try.isAgg25 Try.sizeOf25)) ?_
 refine dx_eff 11 rfl (by kernel_rfl) ?_
 refine sx_guardT rfl rfl rfl ?_
 have f29 := os_20.ext d28
 refine sx_call rfl rfl Try.call9 (c_iIntSumK f29 (by omega) (fun i hi => hsb i (by omega))) (fun v30 w30 p30 => ?_)
 obtain ⟨s30, rfl, os_30, c30⟩ := p30
 have zw30 := c30.size
 have s31 : Chg 0 0 w20 w30 := (d28.t c30)
 refine wl_nil ?_
 refine dx_next s31 ?_
 refine dx_eff 13 rfl (by kernel_rfl) ?_
 refine sx_guardT rfl rfl rfl ?_
 have f33 := ((f19.ext c20).ext d28).ext c30
 refine sx_call rfl rfl Try.call8 (c_iIntCmpK os_30.sv f33.sv (by first | omega | (rw [Int.natAbs_neg]; omega)) (by first | omega | (rw [Int.natAbs_neg]; omega))) (fun v34 w34 p34 => ?_)
 obtain ⟨rfl, c34⟩ := p34
 have zw34 := c34.size
 have s35 : Chg 0 0 w20 w34 := ((d28.t c30).t c34)
 refine wl_nil ?_
 refine dx_next s35 ?_
 refine dx_takeG 14 rfl rfl rfl rfl rfl rfl (by kernel_rfl) (by kernel_rfl) (by kernel_rfl) s35 (fun _ hS => px_ne rfl rfl) ?_
 refine dt 15 rfl rfl rfl rfl s35 (fun _ hS => px_pick rfl rfl) ?_
 refine dt 16 rfl rfl rfl rfl s35 (fun _ hS => px_move rfl) ?_
 have h177x1 : ¬ ((cmpI (((shrs (x6) ws15)).sum) (x6) : Int) ≠ 0) := Decidable.not_not.2 (cmpI_eq0 hsum)
 refine dx_tmpPF (t := 52) rfl h177x1 ?_
 refine dx_takeG 17 rfl rfl rfl rfl rfl rfl (by kernel_rfl) (by kernel_rfl) (by kernel_rfl) s35 (fun _ hS => px_load rfl ((f23.chg hS (by omega)).loadA (vs := [.bool (ng x6), s6]) (look_lit rfl) Try.isAgg25 Try.sizeOf25)) ?_
 refine dx_takeG 18 rfl rfl rfl rfl rfl rfl (by kernel_rfl) (by kernel_rfl) (by kernel_rfl) s35 (fun _ hS => px_move rfl) ?_
 refine dx_takeG 19 rfl rfl rfl rfl rfl rfl (by kernel_rfl) (by kernel_rfl) (by kernel_rfl) s35 (fun _ hS => px_move rfl) ?_
 refine dx_eff 20 rfl (by kernel_rfl) ?_
 refine sx_guardT rfl rfl rfl ?_
 have f36 := f33.ext c34
 have f39 := ((f27.ext d28).ext c30).ext c34
 have f41 := (f29.ext c30).ext c34
 refine sx_call rfl rfl Try.call10 (c_iSharesOk f36.sv f39.sv f41 (by assumption) (by omega) (by first | exact .inl (by omega) | assumption) (rfl)) (fun v42 w42 p42 => ?_)
 obtain ⟨rfl, c42⟩ := p42
 have zw42 := c42.size
 have s43 : Chg 0 0 w20 w42 := (((d28.t c30).t c34).t c42)
 refine wl_nil ?_
 refine dx_next s43 ?_
 refine dx_takeG 21 rfl rfl rfl rfl rfl rfl (by kernel_rfl) (by kernel_rfl) (by kernel_rfl) s43 (fun _ hS => px_not rfl) ?_
 refine dt 22 rfl rfl rfl rfl s43 (fun _ hS => px_pick rfl rfl) ?_
 refine dx_done (by kernel_rfl) ?_
 refine q_n (k22 _ _ ?_)
 refine sx_sub (Sub.c 2 rfl (.c 3 rfl (.c 4 rfl (.c 5 rfl (.c 58 rfl .nil))))) ?_
 refine sx_condF rfl ?_
 refine sx_skip ?_
 refine q_n (k21 _ _ ?_)
 refine sx_seq fun K44 k44 => ?_
 refine sx_seq fun K45 k45 => sx_region ?_
 refine mv rfl rfl ?_
 have f46 := f41.ext c42
 refine sp rfl (px_len rfl Try.underlying28 f46.sv) ?_
 refine mv rfl rfl (wl_nil (q_n (k45 _ _ ?_)))
 refine sx_block ?_
 have f51 := (((f23.ext d28).ext c30).ext c34).ext c42
 refine sx_loop (fun mm aa w' => ∃ (i : Nat), Agr 155 [(3, .pointer (some ⟨b7, 0, none⟩)), (4, v15), (5, s20), (59, s20), (60, .int .i64 (↑((shrs (x6) ws15).length))), (61, .int .i64 ↑i)] aa ∧ Chg 0 0 w42 w' ∧ Blk w' b7 [.bool (ng x6), s6] 25 ∧ (mm = ws15.length - i) ∧ (i ≤ ws15.length)) (_) (fun a ha => ⟨0, ha.sub (Sub.c 3 rfl (.c 4 rfl (.c 5 rfl (.c 59 rfl (.c 60 rfl (.c 61 (look_int (t := 61) rfl (by first | omega | simp)) .nil)))))), Chg.refl _ _ _, f51, rfl, by omega⟩) ?_
 rintro mm aa wl47 ⟨i, hAwl47, cwl47, hb_b7, hm, hi⟩
 refine (show cw Try.prog 155 _ _ _ wl47 from ?_) aa hAwl47
 clear hAwl47
 have zwl47 := cwl47.size
 refine sx_seq fun K52 k52 => sx_region ?_
 refine sp rfl (px_lt rfl rfl) ?_
 refine wl_nil (q_n (k52 _ _ ?_))
 refine sx_seq fun K53 k53 => ?_
 refine sx_condP rfl (fun h180 => ?_) (fun h180 => ?_)
 ·
  have hbi := hsb i (by omega)
  refine sx_skip ?_
  refine q_n (k53 _ _ ?_)
  refine sx_seq fun K54 k54 => ?_
  refine sx_block ?_
  refine sx_seq fun K55 k55 => sx_region ?_
  refine mv rfl rfl ?_
  have f56 := f46.ext cwl47
  refine sp rfl (px_indexK (j := i) rfl rfl (by omega) Try.underlying28 Try.sizeOf25 f56.sv (by omega)) ?_
  refine sp rfl (px_load rfl (f56.sv.loadA (sg_look (by omega)) Try.isAgg25 Try.sizeOf25)) ?_
  refine sx_alloc [.bool false, (.slice none 0 0)] rfl Try.zeroValue25 rfl (fun b57 w58 eb57 sb57 fb57 cb57 => ?_)
  have zw58 := cb57.size
  refine av rfl rfl ?_
  have f60 := (f56.nest i (by omega)).ext cb57
  refine sx_store (vs := [.bool (ng ((shrs (x6) ws15).getD i 0)), (us20.getD i vz)]) rfl rfl fb57 rfl Try.sizeOf25 (nbl rfl) (one_cons rfl (one_cons f60.one one_nil)) (fun w59 sw59 fw59 cw59 => ?_)
  have zw59 := cw59.size
  have gw59 : Blk w59 b57 [.bool (ng ((shrs (x6) ws15).getD i 0)), (us20.getD i vz)] 25 := fw59
  refine wl_nil (q_n (k55 _ _ ?_))
  refine sx_seq fun K61 k61 => sx_region ?_
  have f62 := hb_b7.ext cb57
  have f63 := f62.chg cw59 (by omega)
  refine sp rfl (px_load rfl (f63.loadA (vs := [.bool (ng x6), s6]) (look_lit rfl) Try.isAgg25 Try.sizeOf25)) ?_
  refine mv rfl rfl (mv rfl rfl ?_)
  have f65 := (f36.ext c42).ext cwl47
  have f66 := f65.ext cb57
  have f67 := f66.chg cw59 (by omega)
  have f69 := (f39.ext c42).ext cwl47
  have f70 := f69.ext cb57
  have f71 := f70.chg cw59 (by omega)
  refine sx_call rfl rfl Try.call11 (c_iFairShareK f67.sv f71.sv (by assumption) (by omega) (by omega)) (fun v72 w72 p72 => ?_)
  obtain ⟨s72, t72, ls72, us72, lt72, ut72, rfl, os_72, ot_72, hd72, hK72, c72⟩ := p72
  have zw72 := c72.size
  refine mv rfl rfl (sp rfl (px_ex2 rfl rfl) ?_)
  refine sp rfl (px_ex2 rfl rfl) ?_
  refine sx_alloc [.bool false, (.slice none 0 0), (.slice none 0 0)] rfl Try.zeroValue35 rfl (fun b73 w74 eb73 sb73 fb73 cb73 => ?_)
  have zw74 := cb73.size
  have f76 := ot_72.ext cb73
  have f77 := os_72.ext cb73
  refine sx_store (vs := [.bool (ng (fsN (x6) ws15 i)), s72, t72]) rfl rfl fb73 rfl Try.sizeOf35 (nbl rfl) (one_cons rfl (one_cons f77.one (one_cons f76.one one_nil))) (fun w75 sw75 fw75 cw75 => ?_)
  have zw75 := cw75.size
  have gw75 : Blk w75 b73 [.bool (ng (fsN (x6) ws15 i)), s72, t72] 35 := fw75
  refine av rfl rfl (wl_nil (q_n (k61 _ _ ?_)))
  refine sx_sub (Sub.c 3 rfl (.c 4 rfl (.c 5 rfl (.c 7 rfl (.c 8 rfl (.c 9 rfl (.c 10 rfl (.c 59 rfl (.c 60 rfl (.c 61 rfl .nil)))))))))) ?_
  refine sx_seq fun K78 k78 => sx_region ?_
  refine sp rfl (px_load rfl (gw75.loadA (vs := [.bool (ng (fsN (x6) ws15 i)), s72, t72]) (look_lit rfl) Try.isAgg35 Try.sizeOf35)) ?_
  have f79 := f77.chg cw75 (by omega)
  have f80 := f76.chg cw75 (by omega)
  refine sx_call rfl rfl Try.call12 (c_iRatRoundK f79.sv f80.sv (by assumption) (by omega)) (fun v81 w81 p81 => ?_)
  obtain ⟨s81, rfl, os_81, hl81, c81⟩ := p81
  have zw81 := c81.size
  refine mv rfl rfl (sp rfl (px_ex2 rfl rfl) ?_)
  refine sp rfl (px_ex2 rfl rfl) ?_
  refine sx_alloc [.bool false, (.slice none 0 0)] rfl Try.zeroValue25 rfl (fun b82 w83 eb82 sb82 fb82 cb82 => ?_)
  have zw83 := cb82.size
  have f85 := os_81.ext cb82
  refine sx_store (vs := [.bool (ng (rqI (fsN (x6) ws15 i) (fsE (x6) ws15 i) (0 : Int))), s81]) rfl rfl fb82 rfl Try.sizeOf25 (nbl rfl) (one_cons rfl (one_cons f85.one one_nil)) (fun w84 sw84 fw84 cw84 => ?_)
  have zw84 := cw84.size
  have gw84 : Blk w84 b82 [.bool (ng (rqI (fsN (x6) ws15 i) (fsE (x6) ws15 i) (0 : Int))), s81] 25 := fw84
  refine av rfl rfl (wl_nil (q_n (k78 _ _ ?_)))
  refine sx_sub (Sub.c 3 rfl (.c 4 rfl (.c 5 rfl (.c 7 rfl (.c 8 rfl (.c 9 rfl (.c 10 rfl (.c 11 rfl (.c 59 rfl (.c 60 rfl (.c 61 rfl .nil))))))))))) ?_
  refine sx_seq fun K86 k86 => sx_region ?_
  have f88 := (gw75.ext c81).ext cb82
  have f89 := f88.chg cw84 (by omega)
  refine sp rfl (px_load rfl (f89.loadA (vs := [.bool (ng (fsN (x6) ws15 i)), s72, t72]) (look_lit rfl) Try.isAgg35 Try.sizeOf35)) ?_
  have f91 := (f79.ext c81).ext cb82
  have f92 := f91.chg cw84 (by omega)
  have f94 := (f80.ext c81).ext cb82
  have f95 := f94.chg cw84 (by omega)
  refine sx_call rfl rfl Try.call12 (c_iRatRoundK f92.sv f95.sv (by assumption) (by omega)) (fun v96 w96 p96 => ?_)
  obtain ⟨s96, rfl, os_96, hl96, c96⟩ := p96
  have zw96 := c96.size
  refine mv rfl rfl (sp rfl (px_ex2 rfl rfl) ?_)
  refine sp rfl (px_ex2 rfl rfl) ?_
  refine sx_alloc [.bool false, (.slice none 0 0)] rfl Try.zeroValue25 rfl (fun b97 w98 eb97 sb97 fb97 cb97 => ?_)
  have zw98 := cb97.size
  have f100 := os_96.ext cb97
  refine sx_store (vs := [.bool (ng (rqI (fsN (x6) ws15 i) (fsE (x6) ws15 i) (1 : Int))), s96]) rfl rfl fb97 rfl Try.sizeOf25 (nbl rfl) (one_cons rfl (one_cons f100.one one_nil)) (fun w99 sw99 fw99 cw99 => ?_)
  have zw99 := cw99.size
  have gw99 : Blk w99 b97 [.bool (ng (rqI (fsN (x6) ws15 i) (fsE (x6) ws15 i) (1 : Int))), s96] 25 := fw99
  refine av rfl rfl (wl_nil (q_n (k86 _ _ ?_)))
  refine sx_sub (Sub.c 3 rfl (.c 4 rfl (.c 5 rfl (.c 7 rfl (.c 8 rfl (.c 9 rfl (.c 10 rfl (.c 11 rfl (.c 13 rfl (.c 59 rfl (.c 60 rfl (.c 61 rfl .nil)))))))))))) ?_
  refine sx_seq fun K101 k101 => sx_region ?_
  have f103 := (gw59.ext c72).ext cb73
  have f104 := f103.chg cw75 (by omega)
  have f106 := (f104.ext c81).ext cb82
  have f107 := f106.chg cw84 (by omega)
  have f109 := (f107.ext c96).ext cb97
  have f110 := f109.chg cw99 (by omega)
  refine sp rfl (px_load rfl (f110.loadA (vs := [.bool (ng ((shrs (x6) ws15).getD i 0)), (us20.getD i vz)]) (look_lit rfl) Try.isAgg25 Try.sizeOf25)) ?_
  have f112 := (gw84.ext c96).ext cb97
  have f113 := f112.chg cw99 (by omega)
  refine sp rfl (px_load rfl (f113.loadA (vs := [.bool (ng (rqI (fsN (x6) ws15 i) (fsE (x6) ws15 i) (0 : Int))), s81]) (look_lit rfl) Try.isAgg25 Try.sizeOf25)) ?_
  have f114 := f60.chg cw59 (by omega)
  have f116 := (f114.ext c72).ext cb73
  have f117 := f116.chg cw75 (by omega)
  have f119 := (f117.ext c81).ext cb82
  have f120 := f119.chg cw84 (by omega)
  have f122 := (f120.ext c96).ext cb97
  have f123 := f122.chg cw99 (by omega)
  have f124 := f85.chg cw84 (by omega)
  have f126 := (f124.ext c96).ext cb97
  have f127 := f126.chg cw99 (by omega)
  refine sx_call rfl rfl Try.call8 (c_iIntCmpK f123 f127.sv (by first | omega | (rw [Int.natAbs_neg]; omega)) (by first | omega | (rw [Int.natAbs_neg]; omega))) (fun v128 w128 p128 => ?_)
  obtain ⟨rfl, c128⟩ := p128
  have zw128 := c128.size
  refine sp rfl (px_ne rfl rfl) ?_
  refine av rfl rfl (wl_nil (q_n (k101 _ _ ?_)))
  refine sx_sub (Sub.c 3 rfl (.c 4 rfl (.c 5 rfl (.c 7 rfl (.c 8 rfl (.c 9 rfl (.c 10 rfl (.c 13 rfl (.c 15 rfl (.c 59 rfl (.c 60 rfl (.c 61 rfl .nil)))))))))))) ?_
  refine sx_seq fun K129 k129 => ?_
  refine sx_seq fun K130 k130 => sx_region ?_
  refine mv rfl rfl (sp rfl (px_not rfl) ?_)
  refine mv rfl rfl ?_
  refine sx_guardT rfl rfl rfl ?_
  refine mv rfl rfl ?_
  refine sx_guardT rfl rfl rfl ?_
  refine mv rfl rfl ?_
  refine sx_tmpP (t := 91) rfl (fun h185 => ?_) (fun h185 => ?_)
  ·
   refine sx_tmpPT (t := 15) rfl h185 ?_
   refine sx_guardT rfl rfl rfl ?_
   have f131 := f110.ext c128
   refine sp rfl (px_load rfl (f131.loadA (vs := [.bool (ng ((shrs (x6) ws15).getD i 0)), (us20.getD i vz)]) (look_lit rfl) Try.isAgg25 Try.sizeOf25)) ?_
   refine sx_guardT rfl rfl rfl ?_
   have f132 := gw99.ext c128
   refine sp rfl (px_load rfl (f132.loadA (vs := [.bool (ng (rqI (fsN (x6) ws15 i) (fsE (x6) ws15 i) (1 : Int))), s96]) (look_lit rfl) Try.isAgg25 Try.sizeOf25)) ?_
   refine sx_guardT rfl rfl rfl ?_
   have f133 := f123.ext c128
   have f134 := f100.chg cw99 (by omega)
   have f135 := f134.ext c128
   refine sx_call rfl rfl Try.call8 (c_iIntCmpK f133 f135.sv (by first | omega | (rw [Int.natAbs_neg]; omega)) (by first | omega | (rw [Int.natAbs_neg]; omega))) (fun v136 w136 p136 => ?_)
   obtain ⟨rfl, c136⟩ := p136
   have zw136 := c136.size
   refine sx_guardT rfl rfl rfl ?_
   refine sp rfl (px_ne rfl rfl) ?_
   refine sx_guardT rfl rfl rfl ?_
   refine sp rfl (px_pick rfl rfl) ?_
   refine sp rfl (px_pick rfl rfl) ?_
   refine mv rfl rfl ?_
   have h185x1 : ¬ ((cmpI ((shrs (x6) ws15).getD i 0) (rqI (fsN (x6) ws15 i) (fsE (x6) ws15 i) (1 : Int)) : Int) ≠ 0) := Decidable.not_not.2 (up_cmp hW hixx (by omega) h185)
   refine sx_tmpPF (t := 98) rfl h185x1 ?_
   refine sx_guardT rfl rfl rfl ?_
   refine mv rfl rfl ?_
   refine sx_guardT rfl rfl rfl ?_
   refine mv rfl rfl ?_
   refine sx_guardT rfl rfl rfl ?_
   have f138 := (f71.ext c72).ext cb73
   have f139 := f138.chg cw75 (by omega)
   have f141 := (f139.ext c81).ext cb82
   have f142 := f141.chg cw84 (by omega)
   have f144 := (f142.ext c96).ext cb97
   have f145 := f144.chg cw99 (by omega)
   have f147 := (f145.ext c128).ext c136
   refine sp rfl (px_index1 (j := i) rfl rfl (by omega) Try.underlying23 Try.sizeOf3 f147.sv (by omega)) ?_
   refine sx_guardT rfl rfl rfl ?_
   refine sp rfl (px_load rfl (f147.sv.load1 (at_int (by omega)) Try.isAgg3)) ?_
   refine sx_guardT rfl rfl rfl ?_
   refine sp rfl (px_eq rfl rfl) ?_
   refine sx_guardT rfl rfl rfl ?_
   refine mv rfl rfl ?_
   refine sx_tmpP (t := 104) rfl (fun h185x2 => ?_) (fun h185x2 => ?_)
   ·
    refine sx_guardT rfl rfl rfl ?_
    have f148 := f131.ext c136
    refine sp rfl (px_load rfl (f148.loadA (vs := [.bool (ng ((shrs (x6) ws15).getD i 0)), (us20.getD i vz)]) (look_lit rfl) Try.isAgg25 Try.sizeOf25)) ?_
    refine sx_guardT rfl rfl rfl ?_
    have f149 := f133.ext c136
    refine sx_call rfl rfl Try.call13 (c_iIntSignK f149 (by omega)) (fun v150 w150 p150 => ?_)
    obtain ⟨rfl, c150⟩ := p150
    have zw150 := c150.size
    refine sx_guardT rfl rfl rfl ?_
    refine sp rfl (px_ne rfl rfl) ?_
    refine sx_guardT rfl rfl rfl ?_
    refine sp rfl (px_pick rfl rfl) ?_
    refine sp rfl (px_pick rfl rfl) ?_
    refine wl_nil (q_n (k130 _ _ ?_))
    refine sx_sub (Sub.c 3 rfl (.c 4 rfl (.c 5 rfl (.c 7 rfl (.c 9 rfl (.c 15 rfl (.c 59 rfl (.c 60 rfl (.c 61 rfl (.c 109 rfl .nil)))))))))) ?_
    have h185x3 : ¬ (((((shrs (x6) ws15).getD i 0)).sign : Int) ≠ 0) := Decidable.not_not.2 (zero_sign hW hixx (by omega) h185x2)
    refine sx_condPF rfl h185x3 ?_
    refine sx_skip ?_
    refine q_n (k129 _ _ ?_)
    refine sx_seq fun K151 k151 => sx_region ?_
    refine mv rfl rfl ?_
    have f152 := f56.ext cb57
    have f153 := f152.chg cw59 (by omega)
    have f155 := (f153.ext c72).ext cb73
    have f156 := f155.chg cw75 (by omega)
    have f158 := (f156.ext c81).ext cb82
    have f159 := f158.chg cw84 (by omega)
    have f161 := (f159.ext c96).ext cb97
    have f162 := f161.chg cw99 (by omega)
    have f165 := ((f162.ext c128).ext c136).ext c150
    refine sp rfl (px_len rfl Try.underlying28 f165.sv) ?_
    refine mv rfl rfl (wl_nil (q_n (k151 _ _ ?_)))
    refine sx_block ?_
    have f168 := (f63.ext c72).ext cb73
    have f169 := f168.chg cw75 (by omega)
    have f171 := (f169.ext c81).ext cb82
    have f172 := f171.chg cw84 (by omega)
    have f174 := (f172.ext c96).ext cb97
    have f175 := f174.chg cw99 (by omega)
    have f178 := ((f175.ext c128).ext c136).ext c150
    have f180 := (f89.ext c96).ext cb97
    have f181 := f180.chg cw99 (by omega)
    have f184 := ((f181.ext c128).ext c136).ext c150
    refine sx_loop (fun mm aa w' => ∃ (k : Nat), Agr 155 [(3, .pointer (some ⟨b7, 0, none⟩)), (4, v15), (5, s20), (7, .int .i64 ↑i), (9, .pointer (some ⟨b73, 0, none⟩)), (15, .bool true), (59, s20), (60, .int .i64 (↑((shrs (x6) ws15).length))), (61, .int .i64 ↑i), (110, s20), (111, .int .i64 (↑((shrs (x6) ws15).length))), (112, .int .i64 ↑k)] aa ∧ Chg 0 0 w150 w' ∧ Blk w' b7 [.bool (ng x6), s6] 25 ∧ Blk w' b73 [.bool (ng (fsN (x6) ws15 i)), s72, t72] 35 ∧ (mm = ws15.length - k) ∧ (k ≤ ws15.length)) (_) (fun a ha => ⟨0, ha.sub (Sub.c 3 rfl (.c 4 rfl (.c 5 rfl (.c 7 rfl (.c 9 rfl (.c 15 rfl (.c 59 rfl (.c 60 rfl (.c 61 rfl (.c 110 rfl (.c 111 rfl (.c 112 (look_int (t := 112) rfl (by first | omega | simp)) .nil)))))))))))), Chg.refl _ _ _, f178, f184, rfl, by omega⟩) ?_
    rintro mm aa wl166 ⟨k, hAwl166, cwl166, hb_b7, hb_b73, hm, hk⟩
    refine (show cw Try.prog 155 _ _ _ wl166 from ?_) aa hAwl166
    clear hAwl166
    have zwl166 := cwl166.size
    refine sx_seq fun K185 k185 => sx_region ?_
    refine sp rfl (px_lt rfl rfl) ?_
    refine wl_nil (q_n (k185 _ _ ?_))
    refine sx_seq fun K186 k186 => ?_
    refine sx_condP rfl (fun h188 => ?_) (fun h188 => ?_)
    ·
     have hbk := hsb k (by omega)
     refine sx_skip ?_
     refine q_n (k186 _ _ ?_)
     refine sx_seq fun K187 k187 => ?_
     refine sx_block ?_
     refine sx_seq fun K188 k188 => sx_region ?_
     refine mv rfl rfl ?_
     have f189 := f165.ext cwl166
     refine sp rfl (px_indexK (j := k) rfl rfl (by omega) Try.underlying28 Try.sizeOf25 f189.sv (by omega)) ?_
     refine sp rfl (px_load rfl (f189.sv.loadA (sg_look (by omega)) Try.isAgg25 Try.sizeOf25)) ?_
     refine sx_alloc [.bool false, (.slice none 0 0)] rfl Try.zeroValue25 rfl (fun b190 w191 eb190 sb190 fb190 cb190 => ?_)
     have zw191 := cb190.size
     refine av rfl rfl ?_
     have f193 := (f189.nest k (by omega)).ext cb190
     refine sx_store (vs := [.bool (ng ((shrs (x6) ws15).getD k 0)), (us20.getD k vz)]) rfl rfl fb190 rfl Try.sizeOf25 (nbl rfl) (one_cons rfl (one_cons f193.one one_nil)) (fun w192 sw192 fw192 cw192 => ?_)
     have zw192 := cw192.size
     have gw192 : Blk w192 b190 [.bool (ng ((shrs (x6) ws15).getD k 0)), (us20.getD k vz)] 25 := fw192
     refine wl_nil (q_n (k188 _ _ ?_))
     refine sx_sub (Sub.c 3 rfl (.c 4 rfl (.c 5 rfl (.c 7 rfl (.c 9 rfl (.c 15 rfl (.c 16 rfl (.c 17 rfl (.c 59 rfl (.c 60 rfl (.c 61 rfl (.c 110 rfl (.c 111 rfl (.c 112 rfl .nil)))))))))))))) ?_
     refine sx_seq fun K194 k194 => sx_region ?_
     have f195 := hb_b7.ext cb190
     have f196 := f195.chg cw192 (by omega)
     refine sp rfl (px_load rfl (f196.loadA (vs := [.bool (ng x6), s6]) (look_lit rfl) Try.isAgg25 Try.sizeOf25)) ?_
     refine mv rfl rfl (mv rfl rfl ?_)
     have f198 := (f67.ext c72).ext cb73
     have f199 := f198.chg cw75 (by omega)
     have f201 := (f199.ext c81).ext cb82
     have f202 := f201.chg cw84 (by omega)
     have f204 := (f202.ext c96).ext cb97
     have f205 := f204.chg cw99 (by omega)
     have f209 := (((f205.ext c128).ext c136).ext c150).ext cwl166
     have f210 := f209.ext cb190
     have f211 := f210.chg cw192 (by omega)
     have f213 := (f147.ext c150).ext cwl166
     have f214 := f213.ext cb190
     have f215 := f214.chg cw192 (by omega)
     refine sx_call rfl rfl Try.call11 (c_iFairShareK f211.sv f215.sv (by assumption) (by omega) (by omega)) (fun v216 w216 p216 => ?_)
     obtain ⟨s216, t216, ls216, us216, lt216, ut216, rfl, os_216, ot_216, hd216, hK216, c216⟩ := p216
     have zw216 := c216.size
     refine mv rfl rfl (sp rfl (px_ex2 rfl rfl) ?_)
     refine sp rfl (px_ex2 rfl rfl) ?_
     refine sx_alloc [.bool false, (.slice none 0 0), (.slice none 0 0)] rfl Try.zeroValue35 rfl (fun b217 w218 eb217 sb217 fb217 cb217 => ?_)
     have zw218 := cb217.size
     have f220 := ot_216.ext cb217
     have f221 := os_216.ext cb217
     refine sx_store (vs := [.bool (ng (fsN (x6) ws15 k)), s216, t216]) rfl rfl fb217 rfl Try.sizeOf35 (nbl rfl) (one_cons rfl (one_cons f221.one (one_cons f220.one one_nil))) (fun w219 sw219 fw219 cw219 => ?_)
     have zw219 := cw219.size
     have gw219 : Blk w219 b217 [.bool (ng (fsN (x6) ws15 k)), s216, t216] 35 := fw219
     refine av rfl rfl (wl_nil (q_n (k194 _ _ ?_)))
     refine sx_sub (Sub.c 3 rfl (.c 4 rfl (.c 5 rfl (.c 7 rfl (.c 9 rfl (.c 15 rfl (.c 16 rfl (.c 17 rfl (.c 18 rfl (.c 59 rfl (.c 60 rfl (.c 61 rfl (.c 110 rfl (.c 111 rfl (.c 112 rfl .nil))))))))))))))) ?_
     refine sx_seq fun K222 k222 => sx_region ?_
     refine sp rfl (px_load rfl (gw219.loadA (vs := [.bool (ng (fsN (x6) ws15 k)), s216, t216]) (look_lit rfl) Try.isAgg35 Try.sizeOf35)) ?_
     have f223 := f221.chg cw219 (by omega)
     have f224 := f220.chg cw219 (by omega)
     refine sx_call rfl rfl Try.call12 (c_iRatRoundK f223.sv f224.sv (by assumption) (by omega)) (fun v225 w225 p225 => ?_)
     obtain ⟨s225, rfl, os_225, hl225, c225⟩ := p225
     have zw225 := c225.size
     refine mv rfl rfl (sp rfl (px_ex2 rfl rfl) ?_)
     refine sp rfl (px_ex2 rfl rfl) ?_
     refine sx_alloc [.bool false, (.slice none 0 0)] rfl Try.zeroValue25 rfl (fun b226 w227 eb226 sb226 fb226 cb226 => ?_)
     have zw227 := cb226.size
     have f229 := os_225.ext cb226
     refine sx_store (vs := [.bool (ng (rqI (fsN (x6) ws15 k) (fsE (x6) ws15 k) (0 : Int))), s225]) rfl rfl fb226 rfl Try.sizeOf25 (nbl rfl) (one_cons rfl (one_cons f229.one one_nil)) (fun w228 sw228 fw228 cw228 => ?_)
     have zw228 := cw228.size
     have gw228 : Blk w228 b226 [.bool (ng (rqI (fsN (x6) ws15 k) (fsE (x6) ws15 k) (0 : Int))), s225] 25 := fw228
     refine av rfl rfl (wl_nil (q_n (k222 _ _ ?_)))
     refine sx_sub (Sub.c 3 rfl (.c 4 rfl (.c 5 rfl (.c 7 rfl (.c 9 rfl (.c 15 rfl (.c 16 rfl (.c 17 rfl (.c 18 rfl (.c 20 rfl (.c 59 rfl (.c 60 rfl (.c 61 rfl (.c 110 rfl (.c 111 rfl (.c 112 rfl .nil)))))))))))))))) ?_
     refine sx_seq fun K230 k230 => ?_
     refine sx_seq fun K231 k231 => sx_region ?_
     refine mv rfl rfl (sp rfl (px_not rfl) ?_)
     refine mv rfl rfl ?_
     refine sx_guardT rfl rfl rfl ?_
     have f233 := (gw192.ext c216).ext cb217
     have f234 := f233.chg cw219 (by omega)
     have f236 := (f234.ext c225).ext cb226
     have f237 := f236.chg cw228 (by omega)
     refine sp rfl (px_load rfl (f237.loadA (vs := [.bool (ng ((shrs (x6) ws15).getD k 0)), (us20.getD k vz)]) (look_lit rfl) Try.isAgg25 Try.sizeOf25)) ?_
     refine sx_guardT rfl rfl rfl ?_
     refine sp rfl (px_load rfl (gw228.loadA (vs := [.bool (ng (rqI (fsN (x6) ws15 k) (fsE (x6) ws15 k) (0 : Int))), s225]) (look_lit rfl) Try.isAgg25 Try.sizeOf25)) ?_
     refine sx_guardT rfl rfl rfl ?_
     have f238 := f193.chg cw192 (by omega)
     have f240 := (f238.ext c216).ext cb217
     have f241 := f240.chg cw219 (by omega)
     have f243 := (f241.ext c225).ext cb226
     have f244 := f243.chg cw228 (by omega)
     have f245 := f229.chg cw228 (by omega)
     refine sx_call rfl rfl Try.call8 (c_iIntCmpK f244 f245.sv (by first | omega | (rw [Int.natAbs_neg]; omega)) (by first | omega | (rw [Int.natAbs_neg]; omega))) (fun v246 w246 p246 => ?_)
     obtain ⟨rfl, c246⟩ := p246
     have zw246 := c246.size
     refine sx_guardT rfl rfl rfl ?_
     refine sp rfl (px_ne rfl rfl) ?_
     refine sp rfl (px_pick rfl rfl) ?_
     refine wl_nil (q_n (k231 _ _ ?_))
     refine sx_sub (Sub.c 3 rfl (.c 4 rfl (.c 5 rfl (.c 7 rfl (.c 9 rfl (.c 15 rfl (.c 16 rfl (.c 18 rfl (.c 59 rfl (.c 60 rfl (.c 61 rfl (.c 110 rfl (.c 111 rfl (.c 112 rfl (.c 136 rfl .nil))))))))))))))) ?_
     refine sx_condP rfl (fun h191 => ?_) (fun h191 => ?_)
     ·
      refine sx_exit ?_
      refine q_e (q_bx (q_n (k187 _ _ ?_)))
      refine sx_region ?_
      refine sp rfl (px_add rfl rfl (by omega)) ?_
      refine mv rfl rfl (wl_nil ?_)
      have q247 := Chg.step (l := 0) (h := 0) (Chg.zero (l := 0) (h := 0) (cwl166.t cb190)) cw192 (by omega)
      have q248 := Chg.step (l := 0) (h := 0) q247 (c216.t cb217) (by omega)
      have q249 := Chg.step (l := 0) (h := 0) q248 cw219 (by omega)
      have q250 := Chg.step (l := 0) (h := 0) q249 (c225.t cb226) (by omega)
      have q251 := Chg.step (l := 0) (h := 0) q250 cw228 (by omega)
      have q252 := Chg.step (l := 0) (h := 0) q251 c246 (by omega)
      have f254 := (f196.ext c216).ext cb217
      have f255 := f254.chg cw219 (by omega)
      have f257 := (f255.ext c225).ext cb226
      have f258 := f257.chg cw228 (by omega)
      have f259 := f258.ext c246
      have f260 := hb_b73.ext cb190
      have f261 := f260.chg cw192 (by omega)
      have f263 := (f261.ext c216).ext cb217
      have f264 := f263.chg cw219 (by omega)
      have f266 := (f264.ext c225).ext cb226
      have f267 := f266.chg cw228 (by omega)
      have f268 := f267.ext c246
      exact fun a ha => ⟨_, by omega, (k + 1), ha.sub (Sub.c 3 rfl (.c 4 rfl (.c 5 rfl (.c 7 rfl (.c 9 rfl (.c 15 rfl (.c 59 rfl (.c 60 rfl (.c 61 rfl (.c 110 rfl (.c 111 rfl (.c 112 (look_int (t := 112) rfl (by first | omega | simp)) .nil)))))))))))), q252, f259, f268, rfl, by omega⟩
     refine sx_skip ?_
     refine q_n (k230 _ _ ?_)
     refine sx_seq fun K269 k269 => ?_
     have f271 := (f196.ext c216).ext cb217
     have f272 := f271.chg cw219 (by omega)
     have f274 := (f272.ext c225).ext cb226
     have f275 := f274.chg cw228 (by omega)
     have f276 := f275.ext c246
     have f278 := (f148.ext c150).ext cwl166
     have f279 := f278.ext cb190
     have f280 := f279.chg cw192 (by omega)
     have f282 := (f280.ext c216).ext cb217
     have f283 := f282.chg cw219 (by omega)
     have f285 := (f283.ext c225).ext cb226
     have f286 := f285.chg cw228 (by omega)
     have f287 := f286.ext c246
     have f288 := hb_b73.ext cb190
     have f289 := f288.chg cw192 (by omega)
     have f291 := (f289.ext c216).ext cb217
     have f292 := f291.chg cw219 (by omega)
     have f294 := (f292.ext c225).ext cb226
     have f295 := f294.chg cw228 (by omega)
     have f296 := f295.ext c246
     have f300 := (((f113.ext c128).ext c136).ext c150).ext cwl166
     have f301 := f300.ext cb190
     have f302 := f301.chg cw192 (by omega)
     have f304 := (f302.ext c216).ext cb217
     have f305 := f304.chg cw219 (by omega)
     have f307 := (f305.ext c225).ext cb226
     have f308 := f307.chg cw228 (by omega)
     have f309 := f308.ext c246
     have f312 := ((f132.ext c136).ext c150).ext cwl166
     have f313 := f312.ext cb190
     have f314 := f313.chg cw192 (by omega)
     have f316 := (f314.ext c216).ext cb217
     have f317 := f316.chg cw219 (by omega)
     have f319 := (f317.ext c225).ext cb226
     have f320 := f319.chg cw228 (by omega)
     have f321 := f320.ext c246
     have f322 := f237.ext c246
     have f324 := (gw219.ext c225).ext cb226
     have f325 := f324.chg cw228 (by omega)
     have f326 := f325.ext c246
     have f327 := gw228.ext c246
     have f332 := ((((f25.ext d28).ext c30).ext c34).ext c42).ext cwl47
     have f333 := f332.ext cb57
     have f334 := f333.chg cw59 (by omega)
     have f336 := (f334.ext c72).ext cb73
     have f337 := f336.chg cw75 (by omega)
     have f339 := (f337.ext c81).ext cb82
     have f340 := f339.chg cw84 (by omega)
     have f342 := (f340.ext c96).ext cb97
     have f343 := f342.chg cw99 (by omega)
     have f347 := (((f343.ext c128).ext c136).ext c150).ext cwl166
     have f348 := f347.ext cb190
     have f349 := f348.chg cw192 (by omega)
     have f351 := (f349.ext c216).ext cb217
     have f352 := f351.chg cw219 (by omega)
     have f354 := (f352.ext c225).ext cb226
     have f355 := f354.chg cw228 (by omega)
     have f356 := f355.ext c246
     have f358 := (f211.ext c216).ext cb217
     have f359 := f358.chg cw219 (by omega)
     have f361 := (f359.ext c225).ext cb226
     have f362 := f361.chg cw228 (by omega)
     have f363 := f362.ext c246
     have f365 := (f215.ext c216).ext cb217
     have f366 := f365.chg cw219 (by omega)
     have f368 := (f366.ext c225).ext cb226
     have f369 := f368.chg cw228 (by omega)
     have f370 := f369.ext c246
     have f371 := f189.ext cb190
     have f372 := f371.chg cw192 (by omega)
     have f374 := (f372.ext c216).ext cb217
     have f375 := f374.chg cw219 (by omega)
     have f377 := (f375.ext c225).ext cb226
     have f378 := f377.chg cw228 (by omega)
     have f379 := f378.ext c246
     have f381 := (f149.ext c150).ext cwl166
     have f382 := f381.ext cb190
     have f383 := f382.chg cw192 (by omega)
     have f385 := (f383.ext c216).ext cb217
     have f386 := f385.chg cw219 (by omega)
     have f388 := (f386.ext c225).ext cb226
     have f389 := f388.chg cw228 (by omega)
     have f390 := f389.ext c246
     have f392 := (f92.ext c96).ext cb97
     have f393 := f392.chg cw99 (by omega)
     have f397 := (((f393.ext c128).ext c136).ext c150).ext cwl166
     have f398 := f397.ext cb190
     have f399 := f398.chg cw192 (by omega)
     have f401 := (f399.ext c216).ext cb217
     have f402 := f401.chg cw219 (by omega)
     have f404 := (f402.ext c225).ext cb226
     have f405 := f404.chg cw228 (by omega)
     have f408 := (f95.ext c96).ext cb97
     have f409 := f408.chg cw99 (by omega)
     have f413 := (((f409.ext c128).ext c136).ext c150).ext cwl166
     have f414 := f413.ext cb190
     have f415 := f414.chg cw192 (by omega)
     have f417 := (f415.ext c216).ext cb217
     have f418 := f417.chg cw219 (by omega)
     have f420 := (f418.ext c225).ext cb226
     have f421 := f420.chg cw228 (by omega)
     have f426 := (((f127.ext c128).ext c136).ext c150).ext cwl166
     have f427 := f426.ext cb190
     have f428 := f427.chg cw192 (by omega)
     have f430 := (f428.ext c216).ext cb217
     have f431 := f430.chg cw219 (by omega)
     have f433 := (f431.ext c225).ext cb226
     have f434 := f433.chg cw228 (by omega)
     have f435 := f434.ext c246
     have f438 := ((f135.ext c136).ext c150).ext cwl166
     have f439 := f438.ext cb190
     have f440 := f439.chg cw192 (by omega)
     have f442 := (f440.ext c216).ext cb217
     have f443 := f442.chg cw219 (by omega)
     have f445 := (f443.ext c225).ext cb226
     have f446 := f445.chg cw228 (by omega)
     have f447 := f446.ext c246
     have f448 := f244.ext c246
     have f450 := (f223.ext c225).ext cb226
     have f451 := f450.chg cw228 (by omega)
     have f454 := (f224.ext c225).ext cb226
     have f455 := f454.chg cw228 (by omega)
     have f457 := f245.ext c246
     refine dx_region (fun w' => Chg 0 0 w246 w') (by kernel_rfl) (Chg.zero (Chg.drew _)) ?_
     have d458 := Chg.drew w246
     have s458 : Chg 0 0 w246 (World.drew w246) := Chg.zero (Chg.drew _)
     have y458 : (World.drew w246).heap.size = w246.heap.size := rfl
     generalize World.drew w246 = w458 at *
     have zw458 := d458.size
     refine dt 0 rfl rfl rfl rfl s458 (fun _ hS => px_load rfl ((f326.chg hS (by omega)).loadA (vs := [.bool (ng (fsN (x6) ws15 k)), s216, t216]) (look_lit rfl) Try.isAgg35 Try.sizeOf35)) ?_
     refine dt 2 rfl rfl rfl rfl s458 (fun _ hS => px_load rfl ((f296.chg hS (by omega)).loadA (vs := [.bool (ng (fsN (x6) ws15 i)), s72, t72]) (look_lit rfl) Try.isAgg35 Try.sizeOf35)) ?_
     refine dx_eff 1 rfl (by kernel_rfl) ?_
     have f459 := (f451.ext c246).ext d458
     have f460 := (f455.ext c246).ext d458
     refine sx_call rfl rfl Try.call15 (c_lack f459.sv f460.sv (by assumption) (Nat.le_trans (fs_len hWd hx3) (by decide))) (fun v461 w461 p461 => ?_)
     obtain ⟨s461, t461, rfl, os_461, ot_461, hK461, c461⟩ := p461
     have zw461 := c461.size
     have s462 : Chg 0 0 w246 w461 := (d458.t c461)
     refine wl_nil ?_
     refine dx_next s462 ?_
     refine dx_eff 3 rfl (by kernel_rfl) ?_
     have f464 := ((f405.ext c246).ext d458).ext c461
     have f466 := ((f421.ext c246).ext d458).ext c461
     refine sx_call rfl rfl Try.call15 (c_lack f464.sv f466.sv (by assumption) (Nat.le_trans (fs_len hWd hx3) (by decide))) (fun v467 w467 p467 => ?_)
     obtain ⟨s467, t467, rfl, os_467, ot_467, hK467, c467⟩ := p467
     have zw467 := c467.size
     have s468 : Chg 0 0 w246 w467 := ((d458.t c461).t c467)
     refine wl_nil ?_
     refine dx_next s468 ?_
     refine dx_eff 4 rfl (by kernel_rfl) ?_
     have f469 := os_461.ext c467
     have f470 := ot_461.ext c467
     refine sx_call rfl rfl Try.call14 (c_iRatCmpK f469 f470 os_467 ot_467 (by assumption) (by assumption)) (fun v471 w471 p471 => ?_)
     obtain ⟨rfl, c471⟩ := p471
     have zw471 := c471.size
     have s472 : Chg 0 0 w246 w471 := (((d458.t c461).t c467).t c471)
     refine wl_nil ?_
     refine dx_next s472 ?_
     refine dt 5 rfl rfl rfl rfl s472 (fun _ hS => px_assign rfl) ?_
     refine dx_done (by kernel_rfl) ?_
     refine q_n (k269 _ _ ?_)
     refine sx_sub (Sub.c 3 rfl (.c 4 rfl (.c 5 rfl (.c 7 rfl (.c 9 rfl (.c 15 rfl (.c 16 rfl (.c 22 rfl (.c 59 rfl (.c 60 rfl (.c 61 rfl (.c 110 rfl (.c 111 rfl (.c 112 rfl .nil)))))))))))))) ?_
     refine sx_seq fun K473 k473 => sx_region ?_
     refine mv rfl rfl (sp rfl (px_gt rfl rfl) ?_)
     refine mv rfl rfl ?_
     have h195 : ¬ ((0 : Int) < cmpI ((((lkN (fsN (x6) ws15 k) (fsE (x6) ws15 k) : Nat) : Int)) * (((fsE (x6) ws15 i) : Nat) : Int)) ((((lkN (fsN (x6) ws15 i) (fsE (x6) ws15 i) : Nat) : Int)) * (((fsE (x6) ws15 k) : Nat) : Int))) := lack_pos hW (lack_order hW (by omega) (by omega) h185 h191)
     refine sx_tmpPF (t := 144) rfl h195 ?_
     refine sx_guardT rfl rfl rfl ?_
     refine mv rfl rfl ?_
     refine sx_guardT rfl rfl rfl ?_
     refine sp rfl (px_eq rfl rfl) ?_
     refine sx_guardT rfl rfl rfl ?_
     refine mv rfl rfl ?_
     refine sx_tmpP (t := 147) rfl (fun h195x1 => ?_) (fun h195x1 => ?_)
     ·
      refine sx_guardT rfl rfl rfl ?_
      refine mv rfl rfl ?_
      refine sx_guardT rfl rfl rfl ?_
      refine mv rfl rfl ?_
      refine sx_guardT rfl rfl rfl ?_
      refine sp rfl (px_lt rfl rfl) ?_
      refine sx_guardT rfl rfl rfl ?_
      refine sp rfl (px_pick rfl rfl) ?_
      refine sp rfl (px_pick rfl rfl) ?_
      refine wl_nil (q_n (k473 _ _ ?_))
      refine sx_sub (Sub.c 3 rfl (.c 4 rfl (.c 5 rfl (.c 7 rfl (.c 9 rfl (.c 15 rfl (.c 59 rfl (.c 60 rfl (.c 61 rfl (.c 110 rfl (.c 111 rfl (.c 112 rfl (.c 152 rfl .nil))))))))))))) ?_
      have h195x2 : ¬ ((↑k : Int) < ↑i) := fun h => lack_tie hW (lack_order hW (by omega) (by omega) h185 h191) h195x1 (by omega)
      refine sx_condPF rfl h195x2 ?_
      refine sx_skip ?_
      refine q_bn (q_n (k187 _ _ ?_))
      refine sx_region ?_
      refine sp rfl (px_add rfl rfl (by omega)) ?_
      refine mv rfl rfl (wl_nil ?_)
      have q474 := Chg.step (l := 0) (h := 0) (Chg.zero (l := 0) (h := 0) (cwl166.t cb190)) cw192 (by omega)
      have q475 := Chg.step (l := 0) (h := 0) q474 (c216.t cb217) (by omega)
      have q476 := Chg.step (l := 0) (h := 0) q475 cw219 (by omega)
      have q477 := Chg.step (l := 0) (h := 0) q476 (c225.t cb226) (by omega)
      have q478 := Chg.step (l := 0) (h := 0) q477 cw228 (by omega)
      have q479 := Chg.step (l := 0) (h := 0) q478 ((((c246.t d458).t c461).t c467).t c471) (by omega)
      have f483 := (((f276.ext d458).ext c461).ext c467).ext c471
      have f487 := (((f296.ext d458).ext c461).ext c467).ext c471
      exact fun a ha => ⟨_, by omega, (k + 1), ha.sub (Sub.c 3 rfl (.c 4 rfl (.c 5 rfl (.c 7 rfl (.c 9 rfl (.c 15 rfl (.c 59 rfl (.c 60 rfl (.c 61 rfl (.c 110 rfl (.c 111 rfl (.c 112 (look_int (t := 112) rfl (by first | omega | simp)) .nil)))))))))))), q479, f483, f487, rfl, by omega⟩
     refine sx_guardF rfl rfl rfl rfl rfl rfl ?_
     refine sx_guardF rfl rfl rfl rfl rfl rfl ?_
     refine sx_guardF rfl rfl rfl rfl rfl rfl ?_
     refine sx_guardT rfl rfl rfl ?_
     refine sp rfl (px_pick rfl rfl) ?_
     refine sp rfl (px_pick rfl rfl) ?_
     refine wl_nil (q_n (k473 _ _ ?_))
     refine sx_sub (Sub.c 3 rfl (.c 4 rfl (.c 5 rfl (.c 7 rfl (.c 9 rfl (.c 15 rfl (.c 59 rfl (.c 60 rfl (.c 61 rfl (.c 110 rfl (.c 111 rfl (.c 112 rfl (.c 152 rfl .nil))))))))))))) ?_
     refine sx_condF rfl ?_
     refine sx_skip ?_
     refine q_bn (q_n (k187 _ _ ?_))
     refine sx_region ?_
     refine sp rfl (px_add rfl rfl (by omega)) ?_
     refine mv rfl rfl (wl_nil ?_)
     have q488 := Chg.step (l := 0) (h := 0) (Chg.zero (l := 0) (h := 0) (cwl166.t cb190)) cw192 (by omega)
     have q489 := Chg.step (l := 0) (h := 0) q488 (c216.t cb217) (by omega)
     have q490 := Chg.step (l := 0) (h := 0) q489 cw219 (by omega)
     have q491 := Chg.step (l := 0) (h := 0) q490 (c225.t cb226) (by omega)
     have q492 := Chg.step (l := 0) (h := 0) q491 cw228 (by omega)
     have q493 := Chg.step (l := 0) (h := 0) q492 ((((c246.t d458).t c461).t c467).t c471) (by omega)
     have f497 := (((f276.ext d458).ext c461).ext c467).ext c471
     have f501 := (((f296.ext d458).ext c461).ext c467).ext c471
     exact fun a ha => ⟨_, by omega, (k + 1), ha.sub (Sub.c 3 rfl (.c 4 rfl (.c 5 rfl (.c 7 rfl (.c 9 rfl (.c 15 rfl (.c 59 rfl (.c 60 rfl (.c 61 rfl (.c 110 rfl (.c 111 rfl (.c 112 (look_int (t := 112) rfl (by first | omega | simp)) .nil)))))))))))), q493, f497, f501, rfl, by omega⟩
    refine sx_exit ?_
    refine q_e (q_e (q_bx (q_bn (q_n (k54 _ _ ?_)))))
    refine sx_region ?_
    refine sp rfl (px_add rfl rfl (by omega)) ?_
    refine mv rfl rfl (wl_nil ?_)
    have q502 := Chg.step (l := 0) (h := 0) (Chg.zero (l := 0) (h := 0) (cwl47.t cb57)) cw59 (by omega)
    have q503 := Chg.step (l := 0) (h := 0) q502 (c72.t cb73) (by omega)
    have q504 := Chg.step (l := 0) (h := 0) q503 cw75 (by omega)
    have q505 := Chg.step (l := 0) (h := 0) q504 (c81.t cb82) (by omega)
    have q506 := Chg.step (l := 0) (h := 0) q505 cw84 (by omega)
    have q507 := Chg.step (l := 0) (h := 0) q506 (c96.t cb97) (by omega)
    have q508 := Chg.step (l := 0) (h := 0) q507 cw99 (by omega)
    have q509 := Chg.step (l := 0) (h := 0) q508 (((c128.t c136).t c150).t cwl166) (by omega)
    exact fun a ha => ⟨_, by omega, (i + 1), ha.sub (Sub.c 3 rfl (.c 4 rfl (.c 5 rfl (.c 59 rfl (.c 60 rfl (.c 61 (look_int (t := 61) rfl (by first | omega | simp)) .nil)))))), q509, hb_b7, rfl, by omega⟩
   refine sx_guardF rfl rfl rfl rfl rfl rfl ?_
   refine sx_guardF rfl rfl rfl rfl rfl rfl ?_
   refine sx_guardF rfl rfl rfl rfl rfl rfl ?_
   refine sx_guardT rfl rfl rfl ?_
   refine sp rfl (px_pick rfl rfl) ?_
   refine sp rfl (px_pick rfl rfl) ?_
   refine wl_nil (q_n (k130 _ _ ?_))
   refine sx_sub (Sub.c 3 rfl (.c 4 rfl (.c 5 rfl (.c 7 rfl (.c 9 rfl (.c 15 rfl (.c 59 rfl (.c 60 rfl (.c 61 rfl (.c 109 rfl .nil)))))))))) ?_
   refine sx_condF rfl ?_
   refine sx_skip ?_
   refine q_n (k129 _ _ ?_)
   refine sx_seq fun K510 k510 => sx_region ?_
   refine mv rfl rfl ?_
   have f511 := f56.ext cb57
   have f512 := f511.chg cw59 (by omega)
   have f514 := (f512.ext c72).ext cb73
   have f515 := f514.chg cw75 (by omega)
   have f517 := (f515.ext c81).ext cb82
   have f518 := f517.chg cw84 (by omega)
   have f520 := (f518.ext c96).ext cb97
   have f521 := f520.chg cw99 (by omega)
   have f523 := (f521.ext c128).ext c136
   refine sp rfl (px_len rfl Try.underlying28 f523.sv) ?_
   refine mv rfl rfl (wl_nil (q_n (k510 _ _ ?_)))
   refine sx_block ?_
   have f526 := (f63.ext c72).ext cb73
   have f527 := f526.chg cw75 (by omega)
   have f529 := (f527.ext c81).ext cb82
   have f530 := f529.chg cw84 (by omega)
   have f532 := (f530.ext c96).ext cb97
   have f533 := f532.chg cw99 (by omega)
   have f535 := (f533.ext c128).ext c136
   have f537 := (f89.ext c96).ext cb97
   have f538 := f537.chg cw99 (by omega)
   have f540 := (f538.ext c128).ext c136
   refine sx_loop (fun mm aa w' => ∃ (k : Nat), Agr 155 [(3, .pointer (some ⟨b7, 0, none⟩)), (4, v15), (5, s20), (7, .int .i64 ↑i), (9, .pointer (some ⟨b73, 0, none⟩)), (15, .bool true), (59, s20), (60, .int .i64 (↑((shrs (x6) ws15).length))), (61, .int .i64 ↑i), (110, s20), (111, .int .i64 (↑((shrs (x6) ws15).length))), (112, .int .i64 ↑k)] aa ∧ Chg 0 0 w136 w' ∧ Blk w' b7 [.bool (ng x6), s6] 25 ∧ Blk w' b73 [.bool (ng (fsN (x6) ws15 i)), s72, t72] 35 ∧ (mm = ws15.length - k) ∧ (k ≤ ws15.length)) (_) (fun a ha => ⟨0, ha.sub (Sub.c 3 rfl (.c 4 rfl (.c 5 rfl (.c 7 rfl (.c 9 rfl (.c 15 rfl (.c 59 rfl (.c 60 rfl (.c 61 rfl (.c 110 rfl (.c 111 rfl (.c 112 (look_int (t := 112) rfl (by first | omega | simp)) .nil)))))))))))), Chg.refl _ _ _, f535, f540, rfl, by omega⟩) ?_
   rintro mm aa wl524 ⟨k, hAwl524, cwl524, hb_b7, hb_b73, hm, hk⟩
   refine (show cw Try.prog 155 _ _ _ wl524 from ?_) aa hAwl524
   clear hAwl524
   have zwl524 := cwl524.size
   refine sx_seq fun K541 k541 => sx_region ?_
   refine sp rfl (px_lt rfl rfl) ?_
   refine wl_nil (q_n (k541 _ _ ?_))
   refine sx_seq fun K542 k542 => ?_
   refine sx_condP rfl (fun h188 => ?_) (fun h188 => ?_)
   ·
    have hbk := hsb k (by omega)
    refine sx_skip ?_
    refine q_n (k542 _ _ ?_)
    refine sx_seq fun K543 k543 => ?_
    refine sx_block ?_
    refine sx_seq fun K544 k544 => sx_region ?_
    refine mv rfl rfl ?_
    have f545 := f523.ext cwl524
    refine sp rfl (px_indexK (j := k) rfl rfl (by omega) Try.underlying28 Try.sizeOf25 f545.sv (by omega)) ?_
    refine sp rfl (px_load rfl (f545.sv.loadA (sg_look (by omega)) Try.isAgg25 Try.sizeOf25)) ?_
    refine sx_alloc [.bool false, (.slice none 0 0)] rfl Try.zeroValue25 rfl (fun b546 w547 eb546 sb546 fb546 cb546 => ?_)
    have zw547 := cb546.size
    refine av rfl rfl ?_
    have f549 := (f545.nest k (by omega)).ext cb546
    refine sx_store (vs := [.bool (ng ((shrs (x6) ws15).getD k 0)), (us20.getD k vz)]) rfl rfl fb546 rfl Try.sizeOf25 (nbl rfl) (one_cons rfl (one_cons f549.one one_nil)) (fun w548 sw548 fw548 cw548 => ?_)
    have zw548 := cw548.size
    have gw548 : Blk w548 b546 [.bool (ng ((shrs (x6) ws15).getD k 0)), (us20.getD k vz)] 25 := fw548
    refine wl_nil (q_n (k544 _ _ ?_))
    refine sx_sub (Sub.c 3 rfl (.c 4 rfl (.c 5 rfl (.c 7 rfl (.c 9 rfl (.c 15 rfl (.c 16 rfl (.c 17 rfl (.c 59 rfl (.c 60 rfl (.c 61 rfl (.c 110 rfl (.c 111 rfl (.c 112 rfl .nil)))))))))))))) ?_
    refine sx_seq fun K550 k550 => sx_region ?_
    have f551 := hb_b7.ext cb546
    have f552 := f551.chg cw548 (by omega)
    refine sp rfl (px_load rfl (f552.loadA (vs := [.bool (ng x6), s6]) (look_lit rfl) Try.isAgg25 Try.sizeOf25)) ?_
    refine mv rfl rfl (mv rfl rfl ?_)
    have f554 := (f67.ext c72).ext cb73
    have f555 := f554.chg cw75 (by omega)
    have f557 := (f555.ext c81).ext cb82
    have f558 := f557.chg cw84 (by omega)
    have f560 := (f558.ext c96).ext cb97
    have f561 := f560.chg cw99 (by omega)
    have f564 := ((f561.ext c128).ext c136).ext cwl524
    have f565 := f564.ext cb546
    have f566 := f565.chg cw548 (by omega)
    have f567 := f147.ext cwl524
    have f568 := f567.ext cb546
    have f569 := f568.chg cw548 (by omega)
    refine sx_call rfl rfl Try.call11 (c_iFairShareK f566.sv f569.sv (by assumption) (by omega) (by omega)) (fun v570 w570 p570 => ?_)
    obtain ⟨s570, t570, ls570, us570, lt570, ut570, rfl, os_570, ot_570, hd570, hK570, c570⟩ := p570
    have zw570 := c570.size
    refine mv rfl rfl (sp rfl (px_ex2 rfl rfl) ?_)
    refine sp rfl (px_ex2 rfl rfl) ?_
    refine sx_alloc [.bool false, (.slice none 0 0), (.slice none 0 0)] rfl Try.zeroValue35 rfl (fun b571 w572 eb571 sb571 fb571 cb571 => ?_)
    have zw572 := cb571.size
    have f574 := ot_570.ext cb571
    have f575 := os_570.ext cb571
    refine sx_store (vs := [.bool (ng (fsN (x6) ws15 k)), s570, t570]) rfl rfl fb571 rfl Try.sizeOf35 (nbl rfl) (one_cons rfl (one_cons f575.one (one_cons f574.one one_nil))) (fun w573 sw573 fw573 cw573 => ?_)
    have zw573 := cw573.size
    have gw573 : Blk w573 b571 [.bool (ng (fsN (x6) ws15 k)), s570, t570] 35 := fw573
    refine av rfl rfl (wl_nil (q_n (k550 _ _ ?_)))
    refine sx_sub (Sub.c 3 rfl (.c 4 rfl (.c 5 rfl (.c 7 rfl (.c 9 rfl (.c 15 rfl (.c 16 rfl (.c 17 rfl (.c 18 rfl (.c 59 rfl (.c 60 rfl (.c 61 rfl (.c 110 rfl (.c 111 rfl (.c 112 rfl .nil))))))))))))))) ?_
    refine sx_seq fun K576 k576 => sx_region ?_
    refine sp rfl (px_load rfl (gw573.loadA (vs := [.bool (ng (fsN (x6) ws15 k)), s570, t570]) (look_lit rfl) Try.isAgg35 Try.sizeOf35)) ?_
    have f577 := f575.chg cw573 (by omega)
    have f578 := f574.chg cw573 (by omega)
    refine sx_call rfl rfl Try.call12 (c_iRatRoundK f577.sv f578.sv (by assumption) (by omega)) (fun v579 w579 p579 => ?_)
    obtain ⟨s579, rfl, os_579, hl579, c579⟩ := p579
    have zw579 := c579.size
    refine mv rfl rfl (sp rfl (px_ex2 rfl rfl) ?_)
    refine sp rfl (px_ex2 rfl rfl) ?_
    refine sx_alloc [.bool false, (.slice none 0 0)] rfl Try.zeroValue25 rfl (fun b580 w581 eb580 sb580 fb580 cb580 => ?_)
    have zw581 := cb580.size
    have f583 := os_579.ext cb580
    refine sx_store (vs := [.bool (ng (rqI (fsN (x6) ws15 k) (fsE (x6) ws15 k) (0 : Int))), s579]) rfl rfl fb580 rfl Try.sizeOf25 (nbl rfl) (one_cons rfl (one_cons f583.one one_nil)) (fun w582 sw582 fw582 cw582 => ?_)
    have zw582 := cw582.size
    have gw582 : Blk w582 b580 [.bool (ng (rqI (fsN (x6) ws15 k) (fsE (x6) ws15 k) (0 : Int))), s579] 25 := fw582
    refine av rfl rfl (wl_nil (q_n (k576 _ _ ?_)))
    refine sx_sub (Sub.c 3 rfl (.c 4 rfl (.c 5 rfl (.c 7 rfl (.c 9 rfl (.c 15 rfl (.c 16 rfl (.c 17 rfl (.c 18 rfl (.c 20 rfl (.c 59 rfl (.c 60 rfl (.c 61 rfl (.c 110 rfl (.c 111 rfl (.c 112 rfl .nil)))))))))))))))) ?_
    refine sx_seq fun K584 k584 => ?_
    refine sx_seq fun K585 k585 => sx_region ?_
    refine mv rfl rfl (sp rfl (px_not rfl) ?_)
    refine mv rfl rfl ?_
    refine sx_guardT rfl rfl rfl ?_
    have f587 := (gw548.ext c570).ext cb571
    have f588 := f587.chg cw573 (by omega)
    have f590 := (f588.ext c579).ext cb580
    have f591 := f590.chg cw582 (by omega)
    refine sp rfl (px_load rfl (f591.loadA (vs := [.bool (ng ((shrs (x6) ws15).getD k 0)), (us20.getD k vz)]) (look_lit rfl) Try.isAgg25 Try.sizeOf25)) ?_
    refine sx_guardT rfl rfl rfl ?_
    refine sp rfl (px_load rfl (gw582.loadA (vs := [.bool (ng (rqI (fsN (x6) ws15 k) (fsE (x6) ws15 k) (0 : Int))), s579]) (look_lit rfl) Try.isAgg25 Try.sizeOf25)) ?_
    refine sx_guardT rfl rfl rfl ?_
    have f592 := f549.chg cw548 (by omega)
    have f594 := (f592.ext c570).ext cb571
    have f595 := f594.chg cw573 (by omega)
    have f597 := (f595.ext c579).ext cb580
    have f598 := f597.chg cw582 (by omega)
    have f599 := f583.chg cw582 (by omega)
    refine sx_call rfl rfl Try.call8 (c_iIntCmpK f598 f599.sv (by first | omega | (rw [Int.natAbs_neg]; omega)) (by first | omega | (rw [Int.natAbs_neg]; omega))) (fun v600 w600 p600 => ?_)
    obtain ⟨rfl, c600⟩ := p600
    have zw600 := c600.size
    refine sx_guardT rfl rfl rfl ?_
    refine sp rfl (px_ne rfl rfl) ?_
    refine sp rfl (px_pick rfl rfl) ?_
    refine wl_nil (q_n (k585 _ _ ?_))
    refine sx_sub (Sub.c 3 rfl (.c 4 rfl (.c 5 rfl (.c 7 rfl (.c 9 rfl (.c 15 rfl (.c 16 rfl (.c 18 rfl (.c 59 rfl (.c 60 rfl (.c 61 rfl (.c 110 rfl (.c 111 rfl (.c 112 rfl (.c 136 rfl .nil))))))))))))))) ?_
    refine sx_condP rfl (fun h191 => ?_) (fun h191 => ?_)
    ·
     refine sx_exit ?_
     refine q_e (q_bx (q_n (k543 _ _ ?_)))
     refine sx_region ?_
     refine sp rfl (px_add rfl rfl (by omega)) ?_
     refine mv rfl rfl (wl_nil ?_)
     have q601 := Chg.step (l := 0) (h := 0) (Chg.zero (l := 0) (h := 0) (cwl524.t cb546)) cw548 (by omega)
     have q602 := Chg.step (l := 0) (h := 0) q601 (c570.t cb571) (by omega)
     have q603 := Chg.step (l := 0) (h := 0) q602 cw573 (by omega)
     have q604 := Chg.step (l := 0) (h := 0) q603 (c579.t cb580) (by omega)
     have q605 := Chg.step (l := 0) (h := 0) q604 cw582 (by omega)
     have q606 := Chg.step (l := 0) (h := 0) q605 c600 (by omega)
     have f608 := (f552.ext c570).ext cb571
     have f609 := f608.chg cw573 (by omega)
     have f611 := (f609.ext c579).ext cb580
     have f612 := f611.chg cw582 (by omega)
     have f613 := f612.ext c600
     have f614 := hb_b73.ext cb546
     have f615 := f614.chg cw548 (by omega)
     have f617 := (f615.ext c570).ext cb571
     have f618 := f617.chg cw573 (by omega)
     have f620 := (f618.ext c579).ext cb580
     have f621 := f620.chg cw582 (by omega)
     have f622 := f621.ext c600
     exact fun a ha => ⟨_, by omega, (k + 1), ha.sub (Sub.c 3 rfl (.c 4 rfl (.c 5 rfl (.c 7 rfl (.c 9 rfl (.c 15 rfl (.c 59 rfl (.c 60 rfl (.c 61 rfl (.c 110 rfl (.c 111 rfl (.c 112 (look_int (t := 112) rfl (by first | omega | simp)) .nil)))))))))))), q606, f613, f622, rfl, by omega⟩
    refine sx_skip ?_
    refine q_n (k584 _ _ ?_)
    refine sx_seq fun K623 k623 => ?_
    have f625 := (f552.ext c570).ext cb571
    have f626 := f625.chg cw573 (by omega)
    have f628 := (f626.ext c579).ext cb580
    have f629 := f628.chg cw582 (by omega)
    have f630 := f629.ext c600
    have f632 := (f131.ext c136).ext cwl524
    have f633 := f632.ext cb546
    have f634 := f633.chg cw548 (by omega)
    have f636 := (f634.ext c570).ext cb571
    have f637 := f636.chg cw573 (by omega)
    have f639 := (f637.ext c579).ext cb580
    have f640 := f639.chg cw582 (by omega)
    have f641 := f640.ext c600
    have f642 := hb_b73.ext cb546
    have f643 := f642.chg cw548 (by omega)
    have f645 := (f643.ext c570).ext cb571
    have f646 := f645.chg cw573 (by omega)
    have f648 := (f646.ext c579).ext cb580
    have f649 := f648.chg cw582 (by omega)
    have f650 := f649.ext c600
    have f653 := ((f113.ext c128).ext c136).ext cwl524
    have f654 := f653.ext cb546
    have f655 := f654.chg cw548 (by omega)
    have f657 := (f655.ext c570).ext cb571
    have f658 := f657.chg cw573 (by omega)
    have f660 := (f658.ext c579).ext cb580
    have f661 := f660.chg cw582 (by omega)
    have f662 := f661.ext c600
    have f664 := (f132.ext c136).ext cwl524
    have f665 := f664.ext cb546
    have f666 := f665.chg cw548 (by omega)
    have f668 := (f666.ext c570).ext cb571
    have f669 := f668.chg cw573 (by omega)
    have f671 := (f669.ext c579).ext cb580
    have f672 := f671.chg cw582 (by omega)
    have f673 := f672.ext c600
    have f674 := f591.ext c600
    have f676 := (gw573.ext c579).ext cb580
    have f677 := f676.chg cw582 (by omega)
    have f678 := f677.ext c600
    have f679 := gw582.ext c600
    have f684 := ((((f25.ext d28).ext c30).ext c34).ext c42).ext cwl47
    have f685 := f684.ext cb57
    have f686 := f685.chg cw59 (by omega)
    have f688 := (f686.ext c72).ext cb73
    have f689 := f688.chg cw75 (by omega)
    have f691 := (f689.ext c81).ext cb82
    have f692 := f691.chg cw84 (by omega)
    have f694 := (f692.ext c96).ext cb97
    have f695 := f694.chg cw99 (by omega)
    have f698 := ((f695.ext c128).ext c136).ext cwl524
    have f699 := f698.ext cb546
    have f700 := f699.chg cw548 (by omega)
    have f702 := (f700.ext c570).ext cb571
    have f703 := f702.chg cw573 (by omega)
    have f705 := (f703.ext c579).ext cb580
    have f706 := f705.chg cw582 (by omega)
    have f707 := f706.ext c600
    have f709 := (f566.ext c570).ext cb571
    have f710 := f709.chg cw573 (by omega)
    have f712 := (f710.ext c579).ext cb580
    have f713 := f712.chg cw582 (by omega)
    have f714 := f713.ext c600
    have f716 := (f569.ext c570).ext cb571
    have f717 := f716.chg cw573 (by omega)
    have f719 := (f717.ext c579).ext cb580
    have f720 := f719.chg cw582 (by omega)
    have f721 := f720.ext c600
    have f722 := f545.ext cb546
    have f723 := f722.chg cw548 (by omega)
    have f725 := (f723.ext c570).ext cb571
    have f726 := f725.chg cw573 (by omega)
    have f728 := (f726.ext c579).ext cb580
    have f729 := f728.chg cw582 (by omega)
    have f730 := f729.ext c600
    have f732 := (f133.ext c136).ext cwl524
    have f733 := f732.ext cb546
    have f734 := f733.chg cw548 (by omega)
    have f736 := (f734.ext c570).ext cb571
    have f737 := f736.chg cw573 (by omega)
    have f739 := (f737.ext c579).ext cb580
    have f740 := f739.chg cw582 (by omega)
    have f741 := f740.ext c600
    have f743 := (f92.ext c96).ext cb97
    have f744 := f743.chg cw99 (by omega)
    have f747 := ((f744.ext c128).ext c136).ext cwl524
    have f748 := f747.ext cb546
    have f749 := f748.chg cw548 (by omega)
    have f751 := (f749.ext c570).ext cb571
    have f752 := f751.chg cw573 (by omega)
    have f754 := (f752.ext c579).ext cb580
    have f755 := f754.chg cw582 (by omega)
    have f758 := (f95.ext c96).ext cb97
    have f759 := f758.chg cw99 (by omega)
    have f762 := ((f759.ext c128).ext c136).ext cwl524
    have f763 := f762.ext cb546
    have f764 := f763.chg cw548 (by omega)
    have f766 := (f764.ext c570).ext cb571
    have f767 := f766.chg cw573 (by omega)
    have f769 := (f767.ext c579).ext cb580
    have f770 := f769.chg cw582 (by omega)
    have f774 := ((f127.ext c128).ext c136).ext cwl524
    have f775 := f774.ext cb546
    have f776 := f775.chg cw548 (by omega)
    have f778 := (f776.ext c570).ext cb571
    have f779 := f778.chg cw573 (by omega)
    have f781 := (f779.ext c579).ext cb580
    have f782 := f781.chg cw582 (by omega)
    have f783 := f782.ext c600
    have f785 := (f135.ext c136).ext cwl524
    have f786 := f785.ext cb546
    have f787 := f786.chg cw548 (by omega)
    have f789 := (f787.ext c570).ext cb571
    have f790 := f789.chg cw573 (by omega)
    have f792 := (f790.ext c579).ext cb580
    have f793 := f792.chg cw582 (by omega)
    have f794 := f793.ext c600
    have f795 := f598.ext c600
    have f797 := (f577.ext c579).ext cb580
    have f798 := f797.chg cw582 (by omega)
    have f801 := (f578.ext c579).ext cb580
    have f802 := f801.chg cw582 (by omega)
    have f804 := f599.ext c600
    refine dx_region (fun w' => Chg 0 0 w600 w') (by kernel_rfl) (Chg.zero (Chg.drew _)) ?_
    have d805 := Chg.drew w600
    have s805 : Chg 0 0 w600 (World.drew w600) := Chg.zero (Chg.drew _)
    have y805 : (World.drew w600).heap.size = w600.heap.size := rfl
    generalize World.drew w600 = w805 at *
    have zw805 := d805.size
    refine dt 0 rfl rfl rfl rfl s805 (fun _ hS => px_load rfl ((f678.chg hS (by omega)).loadA (vs := [.bool (ng (fsN (x6) ws15 k)), s570, t570]) (look_lit rfl) Try.isAgg35 Try.sizeOf35)) ?_
    refine dt 2 rfl rfl rfl rfl s805 (fun _ hS => px_load rfl ((f650.chg hS (by omega)).loadA (vs := [.bool (ng (fsN (x6) ws15 i)), s72, t72]) (look_lit rfl) Try.isAgg35 Try.sizeOf35)) ?_
    refine dx_eff 1 rfl (by kernel_rfl) ?_
    have f806 := (f798.ext c600).ext d805
    have f807 := (f802.ext c600).ext d805
    refine sx_call rfl rfl Try.call15 (c_lack f806.sv f807.sv (by assumption) (Nat.le_trans (fs_len hWd hx3) (by decide))) (fun v808 w808 p808 => ?_)
    obtain ⟨s808, t808, rfl, os_808, ot_808, hK808, c808⟩ := p808
    have zw808 := c808.size
    have s809 : Chg 0 0 w600 w808 := (d805.t c808)
    refine wl_nil ?_
    refine dx_next s809 ?_
    refine dx_eff 3 rfl (by kernel_rfl) ?_
    have f811 := ((f755.ext c600).ext d805).ext c808
    have f813 := ((f770.ext c600).ext d805).ext c808
    refine sx_call rfl rfl Try.call15 (c_lack f811.sv f813.sv (by assumption) (Nat.le_trans (fs_len hWd hx3) (by decide))) (fun v814 w814 p814 => ?_)
    obtain ⟨s814, t814, rfl, os_814, ot_814, hK814, c814⟩ := p814
    have zw814 := c814.size
    have s815 : Chg 0 0 w600 w814 := ((d805.t c808).t c814)
    refine wl_nil ?_
    refine dx_next s815 ?_
    refine dx_eff 4 rfl (by kernel_rfl) ?_
    have f816 := os_808.ext c814
    have f817 := ot_808.ext c814
    refine sx_call rfl rfl Try.call14 (c_iRatCmpK f816 f817 os_814 ot_814 (by assumption) (by assumption)) (fun v818 w818 p818 => ?_)
    obtain ⟨rfl, c818⟩ := p818
    have zw818 := c818.size
    have s819 : Chg 0 0 w600 w818 := (((d805.t c808).t c814).t c818)
    refine wl_nil ?_
    refine dx_next s819 ?_
    refine dt 5 rfl rfl rfl rfl s819 (fun _ hS => px_assign rfl) ?_
    refine dx_done (by kernel_rfl) ?_
    refine q_n (k623 _ _ ?_)
    refine sx_sub (Sub.c 3 rfl (.c 4 rfl (.c 5 rfl (.c 7 rfl (.c 9 rfl (.c 15 rfl (.c 16 rfl (.c 22 rfl (.c 59 rfl (.c 60 rfl (.c 61 rfl (.c 110 rfl (.c 111 rfl (.c 112 rfl .nil)))))))))))))) ?_
    refine sx_seq fun K820 k820 => sx_region ?_
    refine mv rfl rfl (sp rfl (px_gt rfl rfl) ?_)
    refine mv rfl rfl ?_
    have h195 : ¬ ((0 : Int) < cmpI ((((lkN (fsN (x6) ws15 k) (fsE (x6) ws15 k) : Nat) : Int)) * (((fsE (x6) ws15 i) : Nat) : Int)) ((((lkN (fsN (x6) ws15 i) (fsE (x6) ws15 i) : Nat) : Int)) * (((fsE (x6) ws15 k) : Nat) : Int))) := lack_pos hW (lack_order hW (by omega) (by omega) h185 h191)
    refine sx_tmpPF (t := 144) rfl h195 ?_
    refine sx_guardT rfl rfl rfl ?_
    refine mv rfl rfl ?_
    refine sx_guardT rfl rfl rfl ?_
    refine sp rfl (px_eq rfl rfl) ?_
    refine sx_guardT rfl rfl rfl ?_
    refine mv rfl rfl ?_
    refine sx_tmpP (t := 147) rfl (fun h195x1 => ?_) (fun h195x1 => ?_)
    ·
     refine sx_guardT rfl rfl rfl ?_
     refine mv rfl rfl ?_
     refine sx_guardT rfl rfl rfl ?_
     refine mv rfl rfl ?_
     refine sx_guardT rfl rfl rfl ?_
     refine sp rfl (px_lt rfl rfl) ?_
     refine sx_guardT rfl rfl rfl ?_
     refine sp rfl (px_pick rfl rfl) ?_
     refine sp rfl (px_pick rfl rfl) ?_
     refine wl_nil (q_n (k820 _ _ ?_))
     refine sx_sub (Sub.c 3 rfl (.c 4 rfl (.c 5 rfl (.c 7 rfl (.c 9 rfl (.c 15 rfl (.c 59 rfl (.c 60 rfl (.c 61 rfl (.c 110 rfl (.c 111 rfl (.c 112 rfl (.c 152 rfl .nil))))))))))))) ?_
     have h195x2 : ¬ ((↑k : Int) < ↑i) := fun h => lack_tie hW (lack_order hW (by omega) (by omega) h185 h191) h195x1 (by omega)
     refine sx_condPF rfl h195x2 ?_
     refine sx_skip ?_
     refine q_bn (q_n (k543 _ _ ?_))
     refine sx_region ?_
     refine sp rfl (px_add rfl rfl (by omega)) ?_
     refine mv rfl rfl (wl_nil ?_)
     have q821 := Chg.step (l := 0) (h := 0) (Chg.zero (l := 0) (h := 0) (cwl524.t cb546)) cw548 (by omega)
     have q822 := Chg.step (l := 0) (h := 0) q821 (c570.t cb571) (by omega)
     have q823 := Chg.step (l := 0) (h := 0) q822 cw573 (by omega)
     have q824 := Chg.step (l := 0) (h := 0) q823 (c579.t cb580) (by omega)
     have q825 := Chg.step (l := 0) (h := 0) q824 cw582 (by omega)
     have q826 := Chg.step (l := 0) (h := 0) q825 ((((c600.t d805).t c808).t c814).t c818) (by omega)
     have f830 := (((f630.ext d805).ext c808).ext c814).ext c818
     have f834 := (((f650.ext d805).ext c808).ext c814).ext c818
     exact fun a ha => ⟨_, by omega, (k + 1), ha.sub (Sub.c 3 rfl (.c 4 rfl (.c 5 rfl (.c 7 rfl (.c 9 rfl (.c 15 rfl (.c 59 rfl (.c 60 rfl (.c 61 rfl (.c 110 rfl (.c 111 rfl (.c 112 (look_int (t := 112) rfl (by first | omega | simp)) .nil)))))))))))), q826, f830, f834, rfl, by omega⟩
    refine sx_guardF rfl rfl rfl rfl rfl rfl ?_
    refine sx_guardF rfl rfl rfl rfl rfl rfl ?_
    refine sx_guardF rfl rfl rfl rfl rfl rfl ?_
    refine sx_guardT rfl rfl rfl ?_
    refine sp rfl (px_pick rfl rfl) ?_
    refine sp rfl (px_pick rfl rfl) ?_
    refine wl_nil (q_n (k820 _ _ ?_))
    refine sx_sub (Sub.c 3 rfl (.c 4 rfl (.c 5 rfl (.c 7 rfl (.c 9 rfl (.c 15 rfl (.c 59 rfl (.c 60 rfl (.c 61 rfl (.c 110 rfl (.c 111 rfl (.c 112 rfl (.c 152 rfl .nil))))))))))))) ?_
    refine sx_condF rfl ?_
    refine sx_skip ?_
    refine q_bn (q_n (k543 _ _ ?_))
    refine sx_region ?_
    refine sp rfl (px_add rfl rfl (by omega)) ?_
    refine mv rfl rfl (wl_nil ?_)
    have q835 := Chg.step (l := 0) (h := 0) (Chg.zero (l := 0) (h := 0) (cwl524.t cb546)) cw548 (by omega)
    have q836 := Chg.step (l := 0) (h := 0) q835 (c570.t cb571) (by omega)
    have q837 := Chg.step (l := 0) (h := 0) q836 cw573 (by omega)
    have q838 := Chg.step (l := 0) (h := 0) q837 (c579.t cb580) (by omega)
    have q839 := Chg.step (l := 0) (h := 0) q838 cw582 (by omega)
    have q840 := Chg.step (l := 0) (h := 0) q839 ((((c600.t d805).t c808).t c814).t c818) (by omega)
    have f844 := (((f630.ext d805).ext c808).ext c814).ext c818
    have f848 := (((f650.ext d805).ext c808).ext c814).ext c818
    exact fun a ha => ⟨_, by omega, (k + 1), ha.sub (Sub.c 3 rfl (.c 4 rfl (.c 5 rfl (.c 7 rfl (.c 9 rfl (.c 15 rfl (.c 59 rfl (.c 60 rfl (.c 61 rfl (.c 110 rfl (.c 111 rfl (.c 112 (look_int (t := 112) rfl (by first | omega | simp)) .nil)))))))))))), q840, f844, f848, rfl, by omega⟩
   refine sx_exit ?_
   refine q_e (q_e (q_bx (q_bn (q_n (k54 _ _ ?_)))))
   refine sx_region ?_
   refine sp rfl (px_add rfl rfl (by omega)) ?_
   refine mv rfl rfl (wl_nil ?_)
   have q849 := Chg.step (l := 0) (h := 0) (Chg.zero (l := 0) (h := 0) (cwl47.t cb57)) cw59 (by omega)
   have q850 := Chg.step (l := 0) (h := 0) q849 (c72.t cb73) (by omega)
   have q851 := Chg.step (l := 0) (h := 0) q850 cw75 (by omega)
   have q852 := Chg.step (l := 0) (h := 0) q851 (c81.t cb82) (by omega)
   have q853 := Chg.step (l := 0) (h := 0) q852 cw84 (by omega)
   have q854 := Chg.step (l := 0) (h := 0) q853 (c96.t cb97) (by omega)
   have q855 := Chg.step (l := 0) (h := 0) q854 cw99 (by omega)
   have q856 := Chg.step (l := 0) (h := 0) q855 ((c128.t c136).t cwl524) (by omega)
   exact fun a ha => ⟨_, by omega, (i + 1), ha.sub (Sub.c 3 rfl (.c 4 rfl (.c 5 rfl (.c 59 rfl (.c 60 rfl (.c 61 (look_int (t := 61) rfl (by first | omega | simp)) .nil)))))), q856, hb_b7, rfl, by omega⟩
  refine sx_tmpPF (t := 15) rfl h185 ?_
  refine sx_guardF rfl rfl rfl rfl rfl rfl ?_
  refine sx_guardF rfl rfl rfl rfl rfl rfl ?_
  refine sx_guardF rfl rfl rfl rfl rfl rfl ?_
  refine sx_guardF rfl rfl rfl rfl rfl rfl ?_
  refine sx_guardT rfl rfl rfl ?_
  refine sp rfl (px_pick rfl rfl) ?_
  refine sp rfl (px_pick rfl rfl) ?_
  refine mv rfl rfl ?_
  refine sx_guardT rfl rfl rfl ?_
  refine mv rfl rfl ?_
  refine sx_guardT rfl rfl rfl ?_
  refine mv rfl rfl ?_
  refine sx_guardT rfl rfl rfl ?_
  have f858 := (f71.ext c72).ext cb73
  have f859 := f858.chg cw75 (by omega)
  have f861 := (f859.ext c81).ext cb82
  have f862 := f861.chg cw84 (by omega)
  have f864 := (f862.ext c96).ext cb97
  have f865 := f864.chg cw99 (by omega)
  have f866 := f865.ext c128
  refine sp rfl (px_index1 (j := i) rfl rfl (by omega) Try.underlying23 Try.sizeOf3 f866.sv (by omega)) ?_
  refine sx_guardT rfl rfl rfl ?_
  refine sp rfl (px_load rfl (f866.sv.load1 (at_int (by omega)) Try.isAgg3)) ?_
  refine sx_guardT rfl rfl rfl ?_
  refine sp rfl (px_eq rfl rfl) ?_
  refine sx_guardT rfl rfl rfl ?_
  refine mv rfl rfl ?_
  refine sx_tmpP (t := 104) rfl (fun h185x1 => ?_) (fun h185x1 => ?_)
  ·
   refine sx_guardT rfl rfl rfl ?_
   have f867 := f110.ext c128
   refine sp rfl (px_load rfl (f867.loadA (vs := [.bool (ng ((shrs (x6) ws15).getD i 0)), (us20.getD i vz)]) (look_lit rfl) Try.isAgg25 Try.sizeOf25)) ?_
   refine sx_guardT rfl rfl rfl ?_
   have f868 := f123.ext c128
   refine sx_call rfl rfl Try.call13 (c_iIntSignK f868 (by omega)) (fun v869 w869 p869 => ?_)
   obtain ⟨rfl, c869⟩ := p869
   have zw869 := c869.size
   refine sx_guardT rfl rfl rfl ?_
   refine sp rfl (px_ne rfl rfl) ?_
   refine sx_guardT rfl rfl rfl ?_
   refine sp rfl (px_pick rfl rfl) ?_
   refine sp rfl (px_pick rfl rfl) ?_
   refine wl_nil (q_n (k130 _ _ ?_))
   refine sx_sub (Sub.c 3 rfl (.c 4 rfl (.c 5 rfl (.c 7 rfl (.c 9 rfl (.c 15 rfl (.c 59 rfl (.c 60 rfl (.c 61 rfl (.c 109 rfl .nil)))))))))) ?_
   have h185x2 : ¬ (((((shrs (x6) ws15).getD i 0)).sign : Int) ≠ 0) := Decidable.not_not.2 (zero_sign hW hixx (by omega) h185x1)
   refine sx_condPF rfl h185x2 ?_
   refine sx_skip ?_
   refine q_n (k129 _ _ ?_)
   refine sx_seq fun K870 k870 => sx_region ?_
   refine mv rfl rfl ?_
   have f871 := f56.ext cb57
   have f872 := f871.chg cw59 (by omega)
   have f874 := (f872.ext c72).ext cb73
   have f875 := f874.chg cw75 (by omega)
   have f877 := (f875.ext c81).ext cb82
   have f878 := f877.chg cw84 (by omega)
   have f880 := (f878.ext c96).ext cb97
   have f881 := f880.chg cw99 (by omega)
   have f883 := (f881.ext c128).ext c869
   refine sp rfl (px_len rfl Try.underlying28 f883.sv) ?_
   refine mv rfl rfl (wl_nil (q_n (k870 _ _ ?_)))
   refine sx_block ?_
   have f886 := (f63.ext c72).ext cb73
   have f887 := f886.chg cw75 (by omega)
   have f889 := (f887.ext c81).ext cb82
   have f890 := f889.chg cw84 (by omega)
   have f892 := (f890.ext c96).ext cb97
   have f893 := f892.chg cw99 (by omega)
   have f895 := (f893.ext c128).ext c869
   have f897 := (f89.ext c96).ext cb97
   have f898 := f897.chg cw99 (by omega)
   have f900 := (f898.ext c128).ext c869
   refine sx_loop (fun mm aa w' => ∃ (k : Nat), Agr 155 [(3, .pointer (some ⟨b7, 0, none⟩)), (4, v15), (5, s20), (7, .int .i64 ↑i), (9, .pointer (some ⟨b73, 0, none⟩)), (15, .bool false), (59, s20), (60, .int .i64 (↑((shrs (x6) ws15).length))), (61, .int .i64 ↑i), (110, s20), (111, .int .i64 (↑((shrs (x6) ws15).length))), (112, .int .i64 ↑k)] aa ∧ Chg 0 0 w869 w' ∧ Blk w' b7 [.bool (ng x6), s6] 25 ∧ Blk w' b73 [.bool (ng (fsN (x6) ws15 i)), s72, t72] 35 ∧ (mm = ws15.length - k) ∧ (k ≤ ws15.length)) (_) (fun a ha => ⟨0, ha.sub (Sub.c 3 rfl (.c 4 rfl (.c 5 rfl (.c 7 rfl (.c 9 rfl (.c 15 rfl (.c 59 rfl (.c 60 rfl (.c 61 rfl (.c 110 rfl (.c 111 rfl (.c 112 (look_int (t := 112) rfl (by first | omega | simp)) .nil)))))))))))), Chg.refl _ _ _, f895, f900, rfl, by omega⟩) ?_
   rintro mm aa wl884 ⟨k, hAwl884, cwl884, hb_b7, hb_b73, hm, hk⟩
   refine (show cw Try.prog 155 _ _ _ wl884 from ?_) aa hAwl884
   clear hAwl884
   have zwl884 := cwl884.size
   refine sx_seq fun K901 k901 => sx_region ?_
   refine sp rfl (px_lt rfl rfl) ?_
   refine wl_nil (q_n (k901 _ _ ?_))
   refine sx_seq fun K902 k902 => ?_
   refine sx_condP rfl (fun h188 => ?_) (fun h188 => ?_)
   ·
    have hbk := hsb k (by omega)
    refine sx_skip ?_
    refine q_n (k902 _ _ ?_)
    refine sx_seq fun K903 k903 => ?_
    refine sx_block ?_
    refine sx_seq fun K904 k904 => sx_region ?_
    refine mv rfl rfl ?_
    have f905 := f883.ext cwl884
    refine sp rfl (px_indexK (j := k) rfl rfl (by omega) Try.underlying28 Try.sizeOf25 f905.sv (by omega)) ?_
    refine sp rfl (px_load rfl (f905.sv.loadA (sg_look (by omega)) Try.isAgg25 Try.sizeOf25)) ?_
    refine sx_alloc [.bool false, (.slice none 0 0)] rfl Try.zeroValue25 rfl (fun b906 w907 eb906 sb906 fb906 cb906 => ?_)
    have zw907 := cb906.size
    refine av rfl rfl ?_
    have f909 := (f905.nest k (by omega)).ext cb906
    refine sx_store (vs := [.bool (ng ((shrs (x6) ws15).getD k 0)), (us20.getD k vz)]) rfl rfl fb906 rfl Try.sizeOf25 (nbl rfl) (one_cons rfl (one_cons f909.one one_nil)) (fun w908 sw908 fw908 cw908 => ?_)
    have zw908 := cw908.size
    have gw908 : Blk w908 b906 [.bool (ng ((shrs (x6) ws15).getD k 0)), (us20.getD k vz)] 25 := fw908
    refine wl_nil (q_n (k904 _ _ ?_))
    refine sx_sub (Sub.c 3 rfl (.c 4 rfl (.c 5 rfl (.c 7 rfl (.c 9 rfl (.c 15 rfl (.c 16 rfl (.c 17 rfl (.c 59 rfl (.c 60 rfl (.c 61 rfl (.c 110 rfl (.c 111 rfl (.c 112 rfl .nil)))))))))))))) ?_
    refine sx_seq fun K910 k910 => sx_region ?_
    have f911 := hb_b7.ext cb906
    have f912 := f911.chg cw908 (by omega)
    refine sp rfl (px_load rfl (f912.loadA (vs := [.bool (ng x6), s6]) (look_lit rfl) Try.isAgg25 Try.sizeOf25)) ?_
    refine mv rfl rfl (mv rfl rfl ?_)
    have f914 := (f67.ext c72).ext cb73
    have f915 := f914.chg cw75 (by omega)
    have f917 := (f915.ext c81).ext cb82
    have f918 := f917.chg cw84 (by omega)
    have f920 := (f918.ext c96).ext cb97
    have f921 := f920.chg cw99 (by omega)
    have f924 := ((f921.ext c128).ext c869).ext cwl884
    have f925 := f924.ext cb906
    have f926 := f925.chg cw908 (by omega)
    have f928 := (f866.ext c869).ext cwl884
    have f929 := f928.ext cb906
    have f930 := f929.chg cw908 (by omega)
    refine sx_call rfl rfl Try.call11 (c_iFairShareK f926.sv f930.sv (by assumption) (by omega) (by omega)) (fun v931 w931 p931 => ?_)
    obtain ⟨s931, t931, ls931, us931, lt931, ut931, rfl, os_931, ot_931, hd931, hK931, c931⟩ := p931
    have zw931 := c931.size
    refine mv rfl rfl (sp rfl (px_ex2 rfl rfl) ?_)
    refine sp rfl (px_ex2 rfl rfl) ?_
    refine sx_alloc [.bool false, (.slice none 0 0), (.slice none 0 0)] rfl Try.zeroValue35 rfl (fun b932 w933 eb932 sb932 fb932 cb932 => ?_)
    have zw933 := cb932.size
    have f935 := ot_931.ext cb932
    have f936 := os_931.ext cb932
    refine sx_store (vs := [.bool (ng (fsN (x6) ws15 k)), s931, t931]) rfl rfl fb932 rfl Try.sizeOf35 (nbl rfl) (one_cons rfl (one_cons f936.one (one_cons f935.one one_nil))) (fun w934 sw934 fw934 cw934 => ?_)
    have zw934 := cw934.size
    have gw934 : Blk w934 b932 [.bool (ng (fsN (x6) ws15 k)), s931, t931] 35 := fw934
    refine av rfl rfl (wl_nil (q_n (k910 _ _ ?_)))
    refine sx_sub (Sub.c 3 rfl (.c 4 rfl (.c 5 rfl (.c 7 rfl (.c 9 rfl (.c 15 rfl (.c 16 rfl (.c 17 rfl (.c 18 rfl (.c 59 rfl (.c 60 rfl (.c 61 rfl (.c 110 rfl (.c 111 rfl (.c 112 rfl .nil))))))))))))))) ?_
    refine sx_seq fun K937 k937 => sx_region ?_
    refine sp rfl (px_load rfl (gw934.loadA (vs := [.bool (ng (fsN (x6) ws15 k)), s931, t931]) (look_lit rfl) Try.isAgg35 Try.sizeOf35)) ?_
    have f938 := f936.chg cw934 (by omega)
    have f939 := f935.chg cw934 (by omega)
    refine sx_call rfl rfl Try.call12 (c_iRatRoundK f938.sv f939.sv (by assumption) (by omega)) (fun v940 w940 p940 => ?_)
    obtain ⟨s940, rfl, os_940, hl940, c940⟩ := p940
    have zw940 := c940.size
    refine mv rfl rfl (sp rfl (px_ex2 rfl rfl) ?_)
    refine sp rfl (px_ex2 rfl rfl) ?_
    refine sx_alloc [.bool false, (.slice none 0 0)] rfl Try.zeroValue25 rfl (fun b941 w942 eb941 sb941 fb941 cb941 => ?_)
    have zw942 := cb941.size
    have f944 := os_940.ext cb941
    refine sx_store (vs := [.bool (ng (rqI (fsN (x6) ws15 k) (fsE (x6) ws15 k) (0 : Int))), s940]) rfl rfl fb941 rfl Try.sizeOf25 (nbl rfl) (one_cons rfl (one_cons f944.one one_nil)) (fun w943 sw943 fw943 cw943 => ?_)
    have zw943 := cw943.size
    have gw943 : Blk w943 b941 [.bool (ng (rqI (fsN (x6) ws15 k) (fsE (x6) ws15 k) (0 : Int))), s940] 25 := fw943
    refine av rfl rfl (wl_nil (q_n (k937 _ _ ?_)))
    refine sx_sub (Sub.c 3 rfl (.c 4 rfl (.c 5 rfl (.c 7 rfl (.c 9 rfl (.c 15 rfl (.c 16 rfl (.c 17 rfl (.c 18 rfl (.c 20 rfl (.c 59 rfl (.c 60 rfl (.c 61 rfl (.c 110 rfl (.c 111 rfl (.c 112 rfl .nil)))))))))))))))) ?_
    refine sx_seq fun K945 k945 => ?_
    refine sx_seq fun K946 k946 => sx_region ?_
    refine mv rfl rfl (sp rfl (px_not rfl) ?_)
    refine mv rfl rfl ?_
    refine sx_guardF rfl rfl rfl rfl rfl rfl ?_
    refine sx_guardF rfl rfl rfl rfl rfl rfl ?_
    refine sx_guardF rfl rfl rfl rfl rfl rfl ?_
    refine sx_guardF rfl rfl rfl rfl rfl rfl ?_
    refine sp rfl (px_pick rfl rfl) ?_
    refine wl_nil (q_n (k946 _ _ ?_))
    refine sx_sub (Sub.c 3 rfl (.c 4 rfl (.c 5 rfl (.c 7 rfl (.c 9 rfl (.c 15 rfl (.c 16 rfl (.c 18 rfl (.c 59 rfl (.c 60 rfl (.c 61 rfl (.c 110 rfl (.c 111 rfl (.c 112 rfl (.c 136 rfl .nil))))))))))))))) ?_
    refine sx_condT rfl ?_
    refine sx_exit ?_
    refine q_e (q_bx (q_n (k903 _ _ ?_)))
    refine sx_region ?_
    refine sp rfl (px_add rfl rfl (by omega)) ?_
    refine mv rfl rfl (wl_nil ?_)
    have q947 := Chg.step (l := 0) (h := 0) (Chg.zero (l := 0) (h := 0) (cwl884.t cb906)) cw908 (by omega)
    have q948 := Chg.step (l := 0) (h := 0) q947 (c931.t cb932) (by omega)
    have q949 := Chg.step (l := 0) (h := 0) q948 cw934 (by omega)
    have q950 := Chg.step (l := 0) (h := 0) q949 (c940.t cb941) (by omega)
    have q951 := Chg.step (l := 0) (h := 0) q950 cw943 (by omega)
    have f953 := (f912.ext c931).ext cb932
    have f954 := f953.chg cw934 (by omega)
    have f956 := (f954.ext c940).ext cb941
    have f957 := f956.chg cw943 (by omega)
    have f958 := hb_b73.ext cb906
    have f959 := f958.chg cw908 (by omega)
    have f961 := (f959.ext c931).ext cb932
    have f962 := f961.chg cw934 (by omega)
    have f964 := (f962.ext c940).ext cb941
    have f965 := f964.chg cw943 (by omega)
    exact fun a ha => ⟨_, by omega, (k + 1), ha.sub (Sub.c 3 rfl (.c 4 rfl (.c 5 rfl (.c 7 rfl (.c 9 rfl (.c 15 rfl (.c 59 rfl (.c 60 rfl (.c 61 rfl (.c 110 rfl (.c 111 rfl (.c 112 (look_int (t := 112) rfl (by first | omega | simp)) .nil)))))))))))), q951, f957, f965, rfl, by omega⟩
   refine sx_exit ?_
   refine q_e (q_e (q_bx (q_bn (q_n (k54 _ _ ?_)))))
   refine sx_region ?_
   refine sp rfl (px_add rfl rfl (by omega)) ?_
   refine mv rfl rfl (wl_nil ?_)
   have q966 := Chg.step (l := 0) (h := 0) (Chg.zero (l := 0) (h := 0) (cwl47.t cb57)) cw59 (by omega)
   have q967 := Chg.step (l := 0) (h := 0) q966 (c72.t cb73) (by omega)
   have q968 := Chg.step (l := 0) (h := 0) q967 cw75 (by omega)
   have q969 := Chg.step (l := 0) (h := 0) q968 (c81.t cb82) (by omega)
   have q970 := Chg.step (l := 0) (h := 0) q969 cw84 (by omega)
   have q971 := Chg.step (l := 0) (h := 0) q970 (c96.t cb97) (by omega)
   have q972 := Chg.step (l := 0) (h := 0) q971 cw99 (by omega)
   have q973 := Chg.step (l := 0) (h := 0) q972 ((c128.t c869).t cwl884) (by omega)
   exact fun a ha => ⟨_, by omega, (i + 1), ha.sub (Sub.c 3 rfl (.c 4 rfl (.c 5 rfl (.c 59 rfl (.c 60 rfl (.c 61 (look_int (t := 61) rfl (by first | omega | simp)) .nil)))))), q973, hb_b7, rfl, by omega⟩
  refine sx_guardF rfl rfl rfl rfl rfl rfl ?_
  refine sx_guardF rfl rfl rfl rfl rfl rfl ?_
  refine sx_guardF rfl rfl rfl rfl rfl rfl ?_
  refine sx_guardT rfl rfl rfl ?_
  refine sp rfl (px_pick rfl rfl) ?_
  refine sp rfl (px_pick rfl rfl) ?_
  refine wl_nil (q_n (k130 _ _ ?_))
  refine sx_sub (Sub.c 3 rfl (.c 4 rfl (.c 5 rfl (.c 7 rfl (.c 9 rfl (.c 15 rfl (.c 59 rfl (.c 60 rfl (.c 61 rfl (.c 109 rfl .nil)))))))))) ?_
  refine sx_condF rfl ?_
  refine sx_skip ?_
  refine q_n (k129 _ _ ?_)
  refine sx_seq fun K974 k974 => sx_region ?_
  refine mv rfl rfl ?_
  have f975 := f56.ext cb57
  have f976 := f975.chg cw59 (by omega)
  have f978 := (f976.ext c72).ext cb73
  have f979 := f978.chg cw75 (by omega)
  have f981 := (f979.ext c81).ext cb82
  have f982 := f981.chg cw84 (by omega)
  have f984 := (f982.ext c96).ext cb97
  have f985 := f984.chg cw99 (by omega)
  have f986 := f985.ext c128
  refine sp rfl (px_len rfl Try.underlying28 f986.sv) ?_
  refine mv rfl rfl (wl_nil (q_n (k974 _ _ ?_)))
  refine sx_block ?_
  have f989 := (f63.ext c72).ext cb73
  have f990 := f989.chg cw75 (by omega)
  have f992 := (f990.ext c81).ext cb82
  have f993 := f992.chg cw84 (by omega)
  have f995 := (f993.ext c96).ext cb97
  have f996 := f995.chg cw99 (by omega)
  have f997 := f996.ext c128
  have f999 := (f89.ext c96).ext cb97
  have f1000 := f999.chg cw99 (by omega)
  have f1001 := f1000.ext c128
  refine sx_loop (fun mm aa w' => ∃ (k : Nat), Agr 155 [(3, .pointer (some ⟨b7, 0, none⟩)), (4, v15), (5, s20), (7, .int .i64 ↑i), (9, .pointer (some ⟨b73, 0, none⟩)), (15, .bool false), (59, s20), (60, .int .i64 (↑((shrs (x6) ws15).length))), (61, .int .i64 ↑i), (110, s20), (111, .int .i64 (↑((shrs (x6) ws15).length))), (112, .int .i64 ↑k)] aa ∧ Chg 0 0 w128 w' ∧ Blk w' b7 [.bool (ng x6), s6] 25 ∧ Blk w' b73 [.bool (ng (fsN (x6) ws15 i)), s72, t72] 35 ∧ (mm = ws15.length - k) ∧ (k ≤ ws15.length)) (_) (fun a ha => ⟨0, ha.sub (Sub.c 3 rfl (.c 4 rfl (.c 5 rfl (.c 7 rfl (.c 9 rfl (.c 15 rfl (.c 59 rfl (.c 60 rfl (.c 61 rfl (.c 110 rfl (.c 111 rfl (.c 112 (look_int (t := 112) rfl (by first | omega | simp)) .nil)))))))))))), Chg.refl _ _ _, f997, f1001, rfl, by omega⟩) ?_
  rintro mm aa wl987 ⟨k, hAwl987, cwl987, hb_b7, hb_b73, hm, hk⟩
  refine (show cw Try.prog 155 _ _ _ wl987 from ?_) aa hAwl987
  clear hAwl987
  have zwl987 := cwl987.size
  refine sx_seq fun K1002 k1002 => sx_region ?_
  refine sp rfl (px_lt rfl rfl) ?_
  refine wl_nil (q_n (k1002 _ _ ?_))
  refine sx_seq fun K1003 k1003 => ?_
  refine sx_condP rfl (fun h188 => ?_) (fun h188 => ?_)
  ·
   have hbk := hsb k (by omega)
   refine sx_skip ?_
   refine q_n (k1003 _ _ ?_)
   refine sx_seq fun K1004 k1004 => ?_
   refine sx_block ?_
   refine sx_seq fun K1005 k1005 => sx_region ?_
   refine mv rfl rfl ?_
   have f1006 := f986.ext cwl987
   refine sp rfl (px_indexK (j := k) rfl rfl (by omega) Try.underlying28 Try.sizeOf25 f1006.sv (by omega)) ?_
   refine sp rfl (px_load rfl (f1006.sv.loadA (sg_look (by omega)) Try.isAgg25 Try.sizeOf25)) ?_
   refine sx_alloc [.bool false, (.slice none 0 0)] rfl Try.zeroValue25 rfl (fun b1007 w1008 eb1007 sb1007 fb1007 cb1007 => ?_)
   have zw1008 := cb1007.size
   refine av rfl rfl ?_
   have f1010 := (f1006.nest k (by omega)).ext cb1007
   refine sx_store (vs := [.bool (ng ((shrs (x6) ws15).getD k 0)), (us20.getD k vz)]) rfl rfl fb1007 rfl Try.sizeOf25 (nbl rfl) (one_cons rfl (one_cons f1010.one one_nil)) (fun w1009 sw1009 fw1009 cw1009 => ?_)
   have zw1009 := cw1009.size
   have gw1009 : Blk w1009 b1007 [.bool (ng ((shrs (x6) ws15).getD k 0)), (us20.getD k vz)] 25 := fw1009
   refine wl_nil (q_n (k1005 _ _ ?_))
   refine sx_sub (Sub.c 3 rfl (.c 4 rfl (.c 5 rfl (.c 7 rfl (.c 9 rfl (.c 15 rfl (.c 16 rfl (.c 17 rfl (.c 59 rfl (.c 60 rfl (.c 61 rfl (.c 110 rfl (.c 111 rfl (.c 112 rfl .nil)))))))))))))) ?_
   refine sx_seq fun K1011 k1011 => sx_region ?_
   have f1012 := hb_b7.ext cb1007
   have f1013 := f1012.chg cw1009 (by omega)
   refine sp rfl (px_load rfl (f1013.loadA (vs := [.bool (ng x6), s6]) (look_lit rfl) Try.isAgg25 Try.sizeOf25)) ?_
   refine mv rfl rfl (mv rfl rfl ?_)
   have f1015 := (f67.ext c72).ext cb73
   have f1016 := f1015.chg cw75 (by omega)
   have f1018 := (f1016.ext c81).ext cb82
   have f1019 := f1018.chg cw84 (by omega)
   have f1021 := (f1019.ext c96).ext cb97
   have f1022 := f1021.chg cw99 (by omega)
   have f1024 := (f1022.ext c128).ext cwl987
   have f1025 := f1024.ext cb1007
   have f1026 := f1025.chg cw1009 (by omega)
   have f1027 := f866.ext cwl987
   have f1028 := f1027.ext cb1007
   have f1029 := f1028.chg cw1009 (by omega)
   refine sx_call rfl rfl Try.call11 (c_iFairShareK f1026.sv f1029.sv (by assumption) (by omega) (by omega)) (fun v1030 w1030 p1030 => ?_)
   obtain ⟨s1030, t1030, ls1030, us1030, lt1030, ut1030, rfl, os_1030, ot_1030, hd1030, hK1030, c1030⟩ := p1030
   have zw1030 := c1030.size
   refine mv rfl rfl (sp rfl (px_ex2 rfl rfl) ?_)
   refine sp rfl (px_ex2 rfl rfl) ?_
   refine sx_alloc [.bool false, (.slice none 0 0), (.slice none 0 0)] rfl Try.zeroValue35 rfl (fun b1031 w1032 eb1031 sb1031 fb1031 cb1031 => ?_)
   have zw1032 := cb1031.size
   have f1034 := ot_1030.ext cb1031
   have f1035 := os_1030.ext cb1031
   refine sx_store (vs := [.bool (ng (fsN (x6) ws15 k)), s1030, t1030]) rfl rfl fb1031 rfl Try.sizeOf35 (nbl rfl) (one_cons rfl (one_cons f1035.one (one_cons f1034.one one_nil))) (fun w1033 sw1033 fw1033 cw1033 => ?_)
   have zw1033 := cw1033.size
   have gw1033 : Blk w1033 b1031 [.bool (ng (fsN (x6) ws15 k)), s1030, t1030] 35 := fw1033
   refine av rfl rfl (wl_nil (q_n (k1011 _ _ ?_)))
   refine sx_sub (Sub.c 3 rfl (.c 4 rfl (.c 5 rfl (.c 7 rfl (.c 9 rfl (.c 15 rfl (.c 16 rfl (.c 17 rfl (.c 18 rfl (.c 59 rfl (.c 60 rfl (.c 61 rfl (.c 110 rfl (.c 111 rfl (.c 112 rfl .nil))))))))))))))) ?_
   refine sx_seq fun K1036 k1036 => sx_region ?_
   refine sp rfl (px_load rfl (gw1033.loadA (vs := [.bool (ng (fsN (x6) ws15 k)), s1030, t1030]) (look_lit rfl) Try.isAgg35 Try.sizeOf35)) ?_
   have f1037 := f1035.chg cw1033 (by omega)
   have f1038 := f1034.chg cw1033 (by omega)
   refine sx_call rfl rfl Try.call12 (c_iRatRoundK f1037.sv f1038.sv (by assumption) (by omega)) (fun v1039 w1039 p1039 => ?_)
   obtain ⟨s1039, rfl, os_1039, hl1039, c1039⟩ := p1039
   have zw1039 := c1039.size
   refine mv rfl rfl (sp rfl (px_ex2 rfl rfl) ?_)
   refine sp rfl (px_ex2 rfl rfl) ?_
   refine sx_alloc [.bool false, (.slice none 0 0)] rfl Try.zeroValue25 rfl (fun b1040 w1041 eb1040 sb1040 fb1040 cb1040 => ?_)
   have zw1041 := cb1040.size
   have f1043 := os_1039.ext cb1040
   refine sx_store (vs := [.bool (ng (rqI (fsN (x6) ws15 k) (fsE (x6) ws15 k) (0 : Int))), s1039]) rfl rfl fb1040 rfl Try.sizeOf25 (nbl rfl) (one_cons rfl (one_cons f1043.one one_nil)) (fun w1042 sw1042 fw1042 cw1042 => ?_)
   have zw1042 := cw1042.size
   have gw1042 : Blk w1042 b1040 [.bool (ng (rqI (fsN (x6) ws15 k) (fsE (x6) ws15 k) (0 : Int))), s1039] 25 := fw1042
   refine av rfl rfl (wl_nil (q_n (k1036 _ _ ?_)))
   refine sx_sub (Sub.c 3 rfl (.c 4 rfl (.c 5 rfl (.c 7 rfl (.c 9 rfl (.c 15 rfl (.c 16 rfl (.c 17 rfl (.c 18 rfl (.c 20 rfl (.c 59 rfl (.c 60 rfl (.c 61 rfl (.c 110 rfl (.c 111 rfl (.c 112 rfl .nil)))))))))))))))) ?_
   refine sx_seq fun K1044 k1044 => ?_
   refine sx_seq fun K1045 k1045 => sx_region ?_
   refine mv rfl rfl (sp rfl (px_not rfl) ?_)
   refine mv rfl rfl ?_
   refine sx_guardF rfl rfl rfl rfl rfl rfl ?_
   refine sx_guardF rfl rfl rfl rfl rfl rfl ?_
   refine sx_guardF rfl rfl rfl rfl rfl rfl ?_
   refine sx_guardF rfl rfl rfl rfl rfl rfl ?_
   refine sp rfl (px_pick rfl rfl) ?_
   refine wl_nil (q_n (k1045 _ _ ?_))
   refine sx_sub (Sub.c 3 rfl (.c 4 rfl (.c 5 rfl (.c 7 rfl (.c 9 rfl (.c 15 rfl (.c 16 rfl (.c 18 rfl (.c 59 rfl (.c 60 rfl (.c 61 rfl (.c 110 rfl (.c 111 rfl (.c 112 rfl (.c 136 rfl .nil))))))))))))))) ?_
   refine sx_condT rfl ?_
   refine sx_exit ?_
   refine q_e (q_bx (q_n (k1004 _ _ ?_)))
   refine sx_region ?_
   refine sp rfl (px_add rfl rfl (by omega)) ?_
   refine mv rfl rfl (wl_nil ?_)
   have q1046 := Chg.step (l := 0) (h := 0) (Chg.zero (l := 0) (h := 0) (cwl987.t cb1007)) cw1009 (by omega)
   have q1047 := Chg.step (l := 0) (h := 0) q1046 (c1030.t cb1031) (by omega)
   have q1048 := Chg.step (l := 0) (h := 0) q1047 cw1033 (by omega)
   have q1049 := Chg.step (l := 0) (h := 0) q1048 (c1039.t cb1040) (by omega)
   have q1050 := Chg.step (l := 0) (h := 0) q1049 cw1042 (by omega)
   have f1052 := (f1013.ext c1030).ext cb1031
   have f1053 := f1052.chg cw1033 (by omega)
   have f1055 := (f1053.ext c1039).ext cb1040
   have f1056 := f1055.chg cw1042 (by omega)
   have f1057 := hb_b73.ext cb1007
   have f1058 := f1057.chg cw1009 (by omega)
   have f1060 := (f1058.ext c1030).ext cb1031
   have f1061 := f1060.chg cw1033 (by omega)
   have f1063 := (f1061.ext c1039).ext cb1040
   have f1064 := f1063.chg cw1042 (by omega)
   exact fun a ha => ⟨_, by omega, (k + 1), ha.sub (Sub.c 3 rfl (.c 4 rfl (.c 5 rfl (.c 7 rfl (.c 9 rfl (.c 15 rfl (.c 59 rfl (.c 60 rfl (.c 61 rfl (.c 110 rfl (.c 111 rfl (.c 112 (look_int (t := 112) rfl (by first | omega | simp)) .nil)))))))))))), q1050, f1056, f1064, rfl, by omega⟩
  refine sx_exit ?_
  refine q_e (q_e (q_bx (q_bn (q_n (k54 _ _ ?_)))))
  refine sx_region ?_
  refine sp rfl (px_add rfl rfl (by omega)) ?_
  refine mv rfl rfl (wl_nil ?_)
  have q1065 := Chg.step (l := 0) (h := 0) (Chg.zero (l := 0) (h := 0) (cwl47.t cb57)) cw59 (by omega)
  have q1066 := Chg.step (l := 0) (h := 0) q1065 (c72.t cb73) (by omega)
  have q1067 := Chg.step (l := 0) (h := 0) q1066 cw75 (by omega)
  have q1068 := Chg.step (l := 0) (h := 0) q1067 (c81.t cb82) (by omega)
  have q1069 := Chg.step (l := 0) (h := 0) q1068 cw84 (by omega)
  have q1070 := Chg.step (l := 0) (h := 0) q1069 (c96.t cb97) (by omega)
  have q1071 := Chg.step (l := 0) (h := 0) q1070 cw99 (by omega)
  have q1072 := Chg.step (l := 0) (h := 0) q1071 (c128.t cwl987) (by omega)
  exact fun a ha => ⟨_, by omega, (i + 1), ha.sub (Sub.c 3 rfl (.c 4 rfl (.c 5 rfl (.c 59 rfl (.c 60 rfl (.c 61 (look_int (t := 61) rfl (by first | omega | simp)) .nil)))))), q1072, hb_b7, rfl, by omega⟩
 refine sx_exit ?_
 refine q_e (q_e (q_bx (q_n (k44 _ _ ?_))))
 refine sx_seq fun K1073 k1073 => sx_region ?_
 refine av rfl rfl (wl_nil (q_n (k1073 _ _ ?_)))
 refine sx_retc ?_
 refine sx_ret1 Try.results3 rfl ?_
 have q1074 := Chg.step (l := 0) (h := 0) (Chg.zero (l := 0) (h := 0) (c6.t cb7)) cw9 (by omega)
 have q1075 := Chg.step (l := 0) (h := 0) q1074 ((((((c15.t c20).t d28).t c30).t c34).t c42).t cwl47) (by omega)
 exact ⟨rfl, q1075⟩

end Go.Proofs.Ytjkeefmpjocilaa
