/- Contracts of functions of the program: what each call returns, and that it changes nothing that was. Conditions: as each says. -/
import Derived.Test.YtjkeefmpjocilaaDoorTy
import Derived.Test.YtjkeefmpjocilaaDoorNatI
import Derived.Test.YtjkeefmpjocilaaDoorNatQ
import Derived.Test.YtjkeefmpjocilaaDoorSxW
import Derived.Test.YtjkeefmpjocilaaDoorSxQ
import Derived.Test.YtjkeefmpjocilaaDoorSxR
import Derived.Test.YtjkeefmpjocilaaDoorNatJ
import Derived.Test.YtjkeefmpjocilaaDoorSxP
import Derived.Test.YtjkeefmpjocilaaDoorL3
import Derived.Test.YtjkeefmpjocilaaDoorL4
import Derived.Test.YtjkeefmpjocilaaDoorNatSl
import Derived.Test.YtjkeefmpjocilaaDoorNatSk
set_option linter.unusedVariables false
set_option linter.unusedSimpArgs false
namespace Go.Proofs.YtjkeefmpjocilaaDoor
open Go Go.RowKit
set_option maxRecDepth 100000
set_option maxHeartbeats 1000000
theorem law_FnTurned {w : World} {vb : Value} {lvb uvb : Nat} {bs : List Int} (hG0 : Glob w) (hvb : SlB w lvb uvb vb (bs)) (hb8 : ∀ j, j < bs.length → 0 ≤ bs.getD j 0 ∧ bs.getD j 0 ≤ 255) (hbs : bs.length ≤ 9223372036854775807) :
  Ret Tryd.prog 3 [vb] w fun v w' => v = .bool (true) ∧ Chg 0 0 w w' := by
 have hvb0 := hvb.fit
 have hG0l : 0 < w.heap.size := by obtain ⟨T, fz, h1⟩ := hG0; rcases Nat.lt_or_ge 0 w.heap.size with h2 | h2; exact h2; simp [Array.getElem?_eq_none h2] at h1
 refine sx_enter Tryd.func3 rfl Tryd.ntmps3 (nbl rfl) ?_
 refine sx_seq fun K1 k1 => sx_region ?_
 refine av rfl rfl (wl_nil (q_n (k1 _ _ ?_)))
 refine sx_seq fun K2 k2 => ?_
 refine sx_seq fun K3 k3 => sx_region ?_
 refine mv rfl rfl (sp rfl (px_len rfl Tryd.underlying22 hvb0) ?_)
 refine sp rfl (px_gt rfl rfl) ?_
 refine wl_nil (q_n (k3 _ _ ?_))
 refine sx_condP rfl (fun h205 => ?_) (fun h205 => ?_)
 ·
  refine sx_seq fun K4 k4 => sx_region ?_
  refine av rfl rfl (wl_nil (q_n (k4 _ _ ?_)))
  refine sx_retc ?_
  refine q_r (sx_ret1 Tryd.results3 rfl ?_)
  exact ⟨rfl, (Chg.refl 0 0 _)⟩
 refine sx_skip ?_
 refine q_n (k2 _ _ ?_)
 refine sx_seq fun K5 k5 => sx_region ?_
 refine mv rfl rfl (sx_call rfl rfl Tryd.call4 (c_MakeMoneys hvb0 (by assumption) (by omega)) (fun v6 w6 p6 => ?_))
 obtain ⟨s6, x6, t6, y6, cc6, rfl, os_6, ot_6, hk6, hx6, c6⟩ := p6
 have zw6 := c6.size
 have hkk := hk6
 have hx3 := hx6.1
 have hm1 := mok_len (x := x6) hkk (by omega)
 have hxn : (dg (-x6).natAbs).length ≤ 3 := by rw [Int.natAbs_neg]; omega
 refine mv rfl rfl (sp rfl (px_ex2 rfl rfl) ?_)
 refine sp rfl (px_ex2 rfl rfl) ?_
 refine sx_alloc [.string (⟨#[]⟩), .bool false, (.slice none 0 0)] rfl Tryd.zeroValue27 rfl (fun b7 w8 eb7 sb7 fb7 cb7 => ?_)
 have zw8 := cb7.size
 refine sx_alloc [.string (⟨#[]⟩), .bool false, (.slice none 0 0)] rfl Tryd.zeroValue27 rfl (fun b9 w10 eb9 sb9 fb9 cb9 => ?_)
 have zw10 := cb9.size
 have f12 := fb7.ext cb9
 have f13 := os_6.ext cb7
 have f14 := f13.ext cb9
 refine sx_store (vs := [.string cc6, .bool (ng (x6)), s6]) rfl rfl f12 rfl Tryd.sizeOf27 (nbl rfl) (one_cons rfl (one_cons rfl (one_cons f14.one one_nil))) (fun w11 sw11 fw11 cw11 => ?_)
 have zw11 := cw11.size
 have gw11 : Blk w11 b7 [.string cc6, .bool (ng (x6)), s6] 27 := fw11
 have f16 := fb9.chg cw11 (by omega)
 have f17 := ot_6.ext cb7
 have f18 := f17.ext cb9
 have f19 := f18.chg cw11 (by omega)
 refine sx_store (vs := [.string cc6, .bool (ng (y6)), t6]) rfl rfl f16 rfl Tryd.sizeOf27 (nbl rfl) (one_cons rfl (one_cons rfl (one_cons f19.one one_nil))) (fun w15 sw15 fw15 cw15 => ?_)
 have zw15 := cw15.size
 have gw15 : Blk w15 b9 [.string cc6, .bool (ng (y6)), t6] 27 := fw15
 refine wl_nil (q_n (k5 _ _ ?_))
 refine sx_seq fun K20 k20 => sx_region ?_
 refine mv rfl rfl ?_
 have f22 := (hvb0.ext c6).ext cb7
 have f23 := f22.ext cb9
 have f24 := f23.chg cw11 (by omega)
 have f25 := f24.chg cw15 (by omega)
 refine sx_call rfl rfl Tryd.call5 (c_MakeWeights f25 (by assumption) (by omega)) (fun v26 w26 p26 => ?_)
 obtain ⟨s26, ws26, rfl, os_26, hwd26, hwl26, c26⟩ := p26
 have zw26 := c26.size
 have hWd := hwd26
 have hwl6 := hwl26
 have hW := Wd_ok hWd (by omega)
 refine av rfl rfl (wl_nil (q_n (k20 _ _ ?_)))
 refine sx_sub (Sub.c 2 rfl (.c 3 rfl (.c 5 rfl .nil))) ?_
 refine sx_seq fun K27 k27 => sx_region ?_
 refine sp rfl (px_field rfl xfld27x1) ?_
 have f28 := gw11.chg cw15 (by omega)
 have f29 := f28.ext c26
 refine sp rfl (px_load rfl (f29.loadA (vs := [.bool (ng (x6)), s6]) (look_lit rfl) Tryd.isAgg25 Tryd.sizeOf25)) ?_
 refine mv rfl rfl ?_
 have f30 := f14.chg cw11 (by omega)
 have f31 := f30.chg cw15 (by omega)
 have f32 := f31.ext c26
 refine sx_call rfl rfl Tryd.call6 (c_iShares f32 os_26.sv (by assumption) (by omega) (.inl (by omega))) (fun v33 w33 p33 => ?_)
 obtain ⟨s33, us33, rfl, os_33, hix33, c33⟩ := p33
 have zw33 := c33.size
 have hixx := hix33
 have hs1 : (shrs (x6) ws26).length = (ws26).length := shrs_len
 refine mv rfl rfl (sp rfl (px_ex2 rfl rfl) ?_)
 refine sp rfl (px_ex2 rfl rfl) ?_
 refine av rfl rfl (av rfl rfl (wl_nil (q_n (k27 _ _ ?_))))
 refine sx_seq fun K34 k34 => sx_region ?_
 refine sp rfl (px_field rfl xfld27x1) ?_
 have f35 := f29.ext c33
 refine sp rfl (px_load rfl (f35.loadA (vs := [.bool (ng (x6)), s6]) (look_lit rfl) Tryd.isAgg25 Tryd.sizeOf25)) ?_
 have f36 := f32.ext c33
 refine sx_call rfl rfl Tryd.call7 (c_iIntNegK f36 (by omega)) (fun v37 w37 p37 => ?_)
 obtain ⟨s37, rfl, os_37, c37⟩ := p37
 have zw37 := c37.size
 refine mv rfl rfl ?_
 have f39 := (os_26.ext c33).ext c37
 refine sx_call rfl rfl Tryd.call6 (c_iShares os_37.sv f39.sv (by assumption) (by omega) (.inl (by omega))) (fun v40 w40 p40 => ?_)
 obtain ⟨s40, us40, rfl, os_40, hix40, c40⟩ := p40
 have zw40 := c40.size
 have hs2 : (shrs (-(x6)) ws26).length = (ws26).length := shrs_len
 refine mv rfl rfl (sp rfl (px_ex2 rfl rfl) ?_)
 refine sp rfl (px_ex2 rfl rfl) ?_
 refine av rfl rfl (av rfl rfl (wl_nil (q_n (k34 _ _ ?_))))
 refine sx_sub (Sub.c 2 rfl (.c 3 rfl (.c 5 rfl (.c 6 rfl (.c 7 rfl (.c 8 rfl (.c 9 rfl .nil))))))) ?_
 refine sx_seq fun K41 k41 => sx_region ?_
 have f43 := (f35.ext c37).ext c40
 refine sp rfl (px_load rfl (f43.loadA (vs := [.string cc6, .bool (ng (x6)), s6]) (look_lit rfl) Tryd.isAgg27 Tryd.sizeOf27)) ?_
 refine mv rfl rfl ?_
 have f45 := (hG0.ext c6).ext cb7
 have f46 := f45.ext cb9
 have f47 := f46.chg cw11 (by omega)
 have f48 := f47.chg cw15 (by omega)
 have f52 := (((f48.ext c26).ext c33).ext c37).ext c40
 have f54 := (f36.ext c37).ext c40
 have f55 := f39.ext c40
 refine sx_call rfl rfl Tryd.call8 (c_iShareMoney f52 f54 f55.sv (by assumption) (by assumption) (by omega) (by omega)) (fun v56 w56 p56 => ?_)
 obtain ⟨s56, us56, rfl, os_56, c56⟩ := p56
 have zw56 := c56.size
 have hs3 : (mshs cc6 (x6) ws26).length = (ws26).length := mshs_len
 have hst : sumTo (mshs cc6 (x6) ws26) (mshs cc6 (x6) ws26).length = (x6) := mshs_sum hW hixx
 have hsa := mshs_all (c := cc6) (x := (x6)) hkk hW hx3
 refine mv rfl rfl (sp rfl (px_ex2 rfl rfl) ?_)
 refine sp rfl (px_ex2 rfl rfl) ?_
 refine av rfl rfl (av rfl rfl (wl_nil (q_n (k41 _ _ ?_))))
 refine sx_sub (Sub.c 2 rfl (.c 3 rfl (.c 6 rfl (.c 7 rfl (.c 8 rfl (.c 9 rfl (.c 10 rfl (.c 11 rfl .nil)))))))) ?_
 refine sx_seq fun K57 k57 => sx_region ?_
 refine sp rfl (px_field rfl xfld27x0) ?_
 have f58 := f43.ext c56
 refine sp rfl (px_load rfl (f58.load1 rfl Tryd.isAgg9)) ?_
 refine mv rfl rfl ?_
 have f59 := f52.ext c56
 refine sx_call rfl rfl Tryd.call9 (c_iMoneySumT f59 os_56 (by omega) (by assumption) (hsa) (by rw [hst]; omega)) (fun v60 w60 p60 => ?_)
 obtain ⟨s60, rfl, os_60, c60⟩ := p60
 have zw60 := c60.size
 refine mv rfl rfl (sp rfl (px_ex2 rfl rfl) ?_)
 refine sp rfl (px_ex2 rfl rfl) ?_
 refine sx_alloc [.string (⟨#[]⟩), .bool false, (.slice none 0 0)] rfl Tryd.zeroValue27 rfl (fun b61 w62 eb61 sb61 fb61 cb61 => ?_)
 have zw62 := cb61.size
 have f64 := os_60.ext cb61
 refine sx_store (vs := [.string cc6, .bool (ng (sumTo (mshs cc6 (x6) ws26) ((mshs cc6 (x6) ws26)).length)), s60]) rfl rfl fb61 rfl Tryd.sizeOf27 (nbl rfl) (one_cons rfl (one_cons rfl (one_cons f64.one one_nil))) (fun w63 sw63 fw63 cw63 => ?_)
 have zw63 := cw63.size
 have gw63 : Blk w63 b61 [.string cc6, .bool (ng (sumTo (mshs cc6 (x6) ws26) ((mshs cc6 (x6) ws26)).length)), s60] 27 := fw63
 refine av rfl rfl (wl_nil (q_n (k57 _ _ ?_)))
 refine sx_sub (Sub.c 2 rfl (.c 3 rfl (.c 6 rfl (.c 7 rfl (.c 8 rfl (.c 9 rfl (.c 10 rfl (.c 11 rfl (.c 12 rfl (.c 13 rfl .nil)))))))))) ?_
 refine sx_seq fun K65 k65 => ?_
 refine sx_seq fun K66 k66 => sx_region ?_
 refine mv rfl rfl (sp rfl (px_not rfl) ?_)
 refine mv rfl rfl ?_
 refine sx_guardT rfl rfl rfl ?_
 refine mv rfl rfl ?_
 refine sx_guardT rfl rfl rfl ?_
 refine sp rfl (px_not rfl) ?_
 refine sp rfl (px_pick rfl rfl) ?_
 refine mv rfl rfl ?_
 refine sx_guardT rfl rfl rfl ?_
 refine mv rfl rfl ?_
 refine sx_guardT rfl rfl rfl ?_
 refine sp rfl (px_not rfl) ?_
 refine sp rfl (px_pick rfl rfl) ?_
 refine mv rfl rfl ?_
 refine sx_guardT rfl rfl rfl ?_
 refine mv rfl rfl ?_
 refine sx_guardT rfl rfl rfl ?_
 refine sp rfl (px_not rfl) ?_
 refine sp rfl (px_pick rfl rfl) ?_
 refine mv rfl rfl ?_
 refine sx_guardT rfl rfl rfl ?_
 refine sp rfl (px_load rfl (gw63.loadA (vs := [.string cc6, .bool (ng (sumTo (mshs cc6 (x6) ws26) ((mshs cc6 (x6) ws26)).length)), s60]) (look_lit rfl) Tryd.isAgg27 Tryd.sizeOf27)) ?_
 refine sx_guardT rfl rfl rfl ?_
 have f68 := (f58.ext c60).ext cb61
 have f69 := f68.chg cw63 (by omega)
 refine sp rfl (px_load rfl (f69.loadA (vs := [.string cc6, .bool (ng (x6)), s6]) (look_lit rfl) Tryd.isAgg27 Tryd.sizeOf27)) ?_
 refine sx_guardT rfl rfl rfl ?_
 have f70 := f64.chg cw63 (by omega)
 have f73 := ((f54.ext c56).ext c60).ext cb61
 have f74 := f73.chg cw63 (by omega)
 refine sx_call rfl rfl Tryd.call10 (c_iMoneySame f70.sv f74 (by first | omega | (rw [hst]; omega))) (fun v75 w75 p75 => ?_)
 obtain ⟨rfl, c75⟩ := p75
 have zw75 := c75.size
 refine sx_guardT rfl rfl rfl ?_
 refine sp rfl (px_notP rfl) ?_
 refine sp rfl (px_pick rfl rfl) ?_
 refine wl_nil (q_n (k66 _ _ ?_))
 refine sx_sub (Sub.c 2 rfl (.c 6 rfl (.c 8 rfl (.c 10 rfl (.c 72 rfl .nil))))) ?_
 have h214 : ¬ (¬ (cc6 = cc6 ∧ (ng (sumTo (mshs cc6 (x6) ws26) ((mshs cc6 (x6) ws26)).length)) = (ng (x6)) ∧ (dg (sumTo (mshs cc6 (x6) ws26) ((mshs cc6 (x6) ws26)).length).natAbs) = (dg (x6).natAbs))) := fun h => h (by rw [hst]; exact ⟨rfl, rfl, rfl⟩)
 refine sx_condPF rfl h214 ?_
 refine sx_skip ?_
 refine q_n (k65 _ _ ?_)
 refine sx_seq fun K76 k76 => ?_
 refine sx_seq fun K77 k77 => sx_region ?_
 refine mv rfl rfl ?_
 have f80 := ((os_40.ext c56).ext c60).ext cb61
 have f81 := f80.chg cw63 (by omega)
 have f82 := f81.ext c75
 refine sp rfl (px_len rfl Tryd.underlying31 f82.sv) ?_
 refine mv rfl rfl ?_
 have f87 := ((((os_33.ext c37).ext c40).ext c56).ext c60).ext cb61
 have f88 := f87.chg cw63 (by omega)
 have f89 := f88.ext c75
 refine sp rfl (px_len rfl Tryd.underlying31 f89.sv) ?_
 refine sp rfl (px_ne rfl rfl) ?_
 refine mv rfl rfl ?_
 have h217 : ¬ ((↑((shrs (-(x6)) ws26).length) : Int) ≠ ↑((shrs (x6) ws26).length)) := fun h => h (by rw [hs2, hs1])
 refine sx_tmpPF (t := 78) rfl h217 ?_
 refine sx_guardT rfl rfl rfl ?_
 refine mv rfl rfl ?_
 refine sx_guardT rfl rfl rfl ?_
 have f91 := (os_56.ext c60).ext cb61
 have f92 := f91.chg cw63 (by omega)
 have f93 := f92.ext c75
 refine sp rfl (px_len rfl Tryd.underlying35 f93.sv) ?_
 refine sx_guardT rfl rfl rfl ?_
 refine mv rfl rfl ?_
 refine sx_guardT rfl rfl rfl ?_
 refine sp rfl (px_len rfl Tryd.underlying31 f89.sv) ?_
 refine sx_guardT rfl rfl rfl ?_
 refine sp rfl (px_ne rfl rfl) ?_
 refine sp rfl (px_pick rfl rfl) ?_
 refine wl_nil (q_n (k77 _ _ ?_))
 refine sx_sub (Sub.c 2 rfl (.c 6 rfl (.c 8 rfl (.c 10 rfl (.c 84 rfl .nil))))) ?_
 have h217x1 : ¬ ((↑((mshs cc6 (x6) ws26).length) : Int) ≠ ↑((shrs (x6) ws26).length)) := fun h => h (by rw [hs3, hs1])
 refine sx_condPF rfl h217x1 ?_
 refine sx_skip ?_
 refine q_n (k76 _ _ ?_)
 refine sx_seq fun K94 k94 => ?_
 refine sx_seq fun K95 k95 => sx_region ?_
 refine mv rfl rfl (sp rfl (px_len rfl Tryd.underlying31 f89.sv) ?_)
 refine mv rfl rfl (wl_nil (q_n (k95 _ _ ?_)))
 refine sx_block ?_
 refine sx_loop (fun mm aa w' => ∃ (k : Nat), Agr 115 [(6, s33), (8, s40), (10, s56), (86, .int .i64 (↑((shrs (x6) ws26).length))), (87, .int .i64 ↑k)] aa ∧ Chg 0 0 w75 w' ∧ (mm = ws26.length - k) ∧ (k ≤ ws26.length)) (_) (fun a ha => ⟨0, ha.sub (Sub.c 6 rfl (.c 8 rfl (.c 10 rfl (.c 86 rfl (.c 87 (look_int (t := 87) rfl (by first | omega | simp)) .nil))))), Chg.refl _ _ _, rfl, by omega⟩) ?_
 rintro mm aa wl96 ⟨k, hAwl96, cwl96, hm, hk⟩
 refine (show cw Tryd.prog 115 _ _ _ wl96 from ?_) aa hAwl96
 clear hAwl96
 have zwl96 := cwl96.size
 have hxb := fun h : k < ws26.length => shr_len4 (i := k) hW h hx3
 have hxc := fun h : k < ws26.length => shr_len4 (i := k) hW h hxn
 refine sx_seq fun K97 k97 => sx_region ?_
 refine sp rfl (px_lt rfl rfl) ?_
 refine wl_nil (q_n (k97 _ _ ?_))
 refine sx_seq fun K98 k98 => ?_
 refine sx_condP rfl (fun h220 => ?_) (fun h220 => ?_)
 ·
  have hxa := hxb (by omega)
  have hxd := hxc (by omega)
  have hxe : (dg ((shrs (x6) ws26).getD k 0).natAbs).length ≤ 4 := by rw [shrs_get (by omega)]; exact hxa
  have hxf : (dg ((shrs (-(x6)) ws26).getD k 0).natAbs).length ≤ 4 := by rw [shrs_get (by omega)]; exact hxd
  refine sx_skip ?_
  refine q_n (k98 _ _ ?_)
  refine sx_seq fun K99 k99 => ?_
  refine sx_block ?_
  refine sx_seq fun K100 k100 => sx_region ?_
  refine mv rfl rfl (av rfl rfl (wl_nil (q_n (k100 _ _ ?_))))
  refine sx_seq fun K101 k101 => ?_
  have f103 := (f59.ext c60).ext cb61
  have f104 := f103.chg cw63 (by omega)
  have f106 := (f104.ext c75).ext cwl96
  have f108 := (f69.ext c75).ext cwl96
  have f115 := ((((((gw15.ext c26).ext c33).ext c37).ext c40).ext c56).ext c60).ext cb61
  have f116 := f115.chg cw63 (by omega)
  have f118 := (f116.ext c75).ext cwl96
  have f120 := (gw63.ext c75).ext cwl96
  have f127 := ((((((f25.ext c26).ext c33).ext c37).ext c40).ext c56).ext c60).ext cb61
  have f128 := f127.chg cw63 (by omega)
  have f130 := (f128.ext c75).ext cwl96
  have f132 := (f74.ext c75).ext cwl96
  have f133 := f19.chg cw15 (by omega)
  have f140 := ((((((f133.ext c26).ext c33).ext c37).ext c40).ext c56).ext c60).ext cb61
  have f141 := f140.chg cw63 (by omega)
  have f143 := (f141.ext c75).ext cwl96
  have f146 := ((f55.ext c56).ext c60).ext cb61
  have f147 := f146.chg cw63 (by omega)
  have f149 := (f147.ext c75).ext cwl96
  have f150 := f89.ext cwl96
  have f151 := f82.ext cwl96
  have f152 := f93.ext cwl96
  have f154 := (f70.ext c75).ext cwl96
  refine dx_region (fun w' => Chg 0 0 wl96 w') (by kernel_rfl) (Chg.zero (Chg.drew _)) ?_
  have d155 := Chg.drew wl96
  have s155 : Chg 0 0 wl96 (World.drew wl96) := Chg.zero (Chg.drew _)
  have y155 : (World.drew wl96).heap.size = wl96.heap.size := rfl
  generalize World.drew wl96 = w155 at *
  have zw155 := d155.size
  refine dt 0 rfl rfl rfl rfl s155 (fun _ hS => px_move rfl) ?_
  refine dt 1 rfl rfl rfl rfl s155 (fun _ hS => px_move rfl) ?_
  refine dt 2 rfl rfl rfl rfl s155 (fun _ hS => px_indexK (j := k) rfl rfl (by omega) Tryd.underlying31 Tryd.sizeOf25 ((f150.sv).chg hS (by omega)) (by omega)) ?_
  refine dt 3 rfl rfl rfl rfl s155 (fun _ hS => px_load rfl (((f150.sv).chg hS (by omega)).loadA (sg_look (by omega)) Tryd.isAgg25 Tryd.sizeOf25)) ?_
  refine dt 4 rfl rfl rfl rfl s155 (fun _ hS => px_move rfl) ?_
  refine dt 5 rfl rfl rfl rfl s155 (fun _ hS => px_move rfl) ?_
  refine dt 6 rfl rfl rfl rfl s155 (fun _ hS => px_indexK (j := k) rfl rfl (by omega) Tryd.underlying31 Tryd.sizeOf25 ((f151.sv).chg hS (by omega)) (by omega)) ?_
  refine dt 7 rfl rfl rfl rfl s155 (fun _ hS => px_load rfl (((f151.sv).chg hS (by omega)).loadA (sg_look (by omega)) Tryd.isAgg25 Tryd.sizeOf25)) ?_
  refine dx_eff 8 rfl (by kernel_rfl) ?_
  have f156 := (f151.nest k (by omega)).ext d155
  refine sx_call rfl rfl Tryd.call7 (c_iIntNegK f156 (by omega)) (fun v157 w157 p157 => ?_)
  obtain ⟨s157, rfl, os_157, c157⟩ := p157
  have zw157 := c157.size
  have s158 : Chg 0 0 wl96 w157 := (d155.t c157)
  refine wl_nil ?_
  refine dx_next s158 ?_
  refine dx_eff 9 rfl (by kernel_rfl) ?_
  have f160 := ((f150.nest k (by omega)).ext d155).ext c157
  refine sx_call rfl rfl Tryd.call11 (c_iIntCmpK f160 os_157.sv (by first | omega | (rw [Int.natAbs_neg]; omega)) (by first | omega | (rw [Int.natAbs_neg]; omega))) (fun v161 w161 p161 => ?_)
  obtain ⟨rfl, c161⟩ := p161
  have zw161 := c161.size
  have s162 : Chg 0 0 wl96 w161 := ((d155.t c157).t c161)
  refine wl_nil ?_
  refine dx_next s162 ?_
  refine dt 10 rfl rfl rfl rfl s162 (fun _ hS => px_ne rfl rfl) ?_
  refine dt 11 rfl rfl rfl rfl s162 (fun _ hS => px_move rfl) ?_
  have h221 : ¬ ((cmpI ((shrs (x6) ws26).getD k 0) (-((shrs (-(x6)) ws26).getD k 0)) : Int) ≠ 0) := Decidable.not_not.2 (turn_cmp (by omega))
  refine dx_tmpPF (t := 101) rfl h221 ?_
  refine dx_takeG 12 rfl rfl rfl rfl rfl rfl (by kernel_rfl) (by kernel_rfl) (by kernel_rfl) s162 (fun _ hS => px_move rfl) ?_
  refine dx_takeG 13 rfl rfl rfl rfl rfl rfl (by kernel_rfl) (by kernel_rfl) (by kernel_rfl) s162 (fun _ hS => px_move rfl) ?_
  refine dx_takeG 14 rfl rfl rfl rfl rfl rfl (by kernel_rfl) (by kernel_rfl) (by kernel_rfl) s162 (fun _ hS => px_indexK (j := k) rfl rfl (by omega) Tryd.underlying35 Tryd.sizeOf27 ((f152.sv).chg hS (by omega)) (by omega)) ?_
  refine dx_takeG 15 rfl rfl rfl rfl rfl rfl (by kernel_rfl) (by kernel_rfl) (by kernel_rfl) s162 (fun _ hS => px_field rfl xfld27x1) ?_
  refine dx_takeG 16 rfl rfl rfl rfl rfl rfl (by kernel_rfl) (by kernel_rfl) (by kernel_rfl) s162 (fun _ hS => px_load rfl (((f152.sv).chg hS (by omega)).loadA (msh_lookD f152.len (by omega)) Tryd.isAgg25 Tryd.sizeOf25)) ?_
  refine dx_takeG 17 rfl rfl rfl rfl rfl rfl (by kernel_rfl) (by kernel_rfl) (by kernel_rfl) s162 (fun _ hS => px_move rfl) ?_
  refine dx_takeG 18 rfl rfl rfl rfl rfl rfl (by kernel_rfl) (by kernel_rfl) (by kernel_rfl) s162 (fun _ hS => px_move rfl) ?_
  refine dx_takeG 19 rfl rfl rfl rfl rfl rfl (by kernel_rfl) (by kernel_rfl) (by kernel_rfl) s162 (fun _ hS => px_indexK (j := k) rfl rfl (by omega) Tryd.underlying31 Tryd.sizeOf25 ((f150.sv).chg hS (by omega)) (by omega)) ?_
  refine dx_takeG 20 rfl rfl rfl rfl rfl rfl (by kernel_rfl) (by kernel_rfl) (by kernel_rfl) s162 (fun _ hS => px_load rfl (((f150.sv).chg hS (by omega)).loadA (sg_look (by omega)) Tryd.isAgg25 Tryd.sizeOf25)) ?_
  refine dx_eff 21 rfl (by kernel_rfl) ?_
  refine sx_guardT rfl rfl rfl ?_
  have f165 := (((msh_nest f152 (i := k) (by omega)).ext d155).ext c157).ext c161
  have f168 := (((f150.nest k (by omega)).ext d155).ext c157).ext c161
  refine sx_call rfl rfl Tryd.call11 (c_iIntCmpK f165 f168 (by first | omega | (rw [Int.natAbs_neg]; omega)) (by first | omega | (rw [Int.natAbs_neg]; omega))) (fun v169 w169 p169 => ?_)
  obtain ⟨rfl, c169⟩ := p169
  have zw169 := c169.size
  have s170 : Chg 0 0 wl96 w169 := (((d155.t c157).t c161).t c169)
  refine wl_nil ?_
  refine dx_next s170 ?_
  refine dx_takeG 22 rfl rfl rfl rfl rfl rfl (by kernel_rfl) (by kernel_rfl) (by kernel_rfl) s170 (fun _ hS => px_ne rfl rfl) ?_
  refine dt 23 rfl rfl rfl rfl s170 (fun _ hS => px_pick rfl rfl) ?_
  refine dx_done (by kernel_rfl) ?_
  refine q_n (k101 _ _ ?_)
  refine sx_sub (Sub.c 6 rfl (.c 8 rfl (.c 10 rfl (.c 86 rfl (.c 87 rfl (.c 113 rfl .nil)))))) ?_
  have h221x1 : ¬ ((cmpI (shr (x6) ws26 k) ((shrs (x6) ws26).getD k 0) : Int) ≠ 0) := Decidable.not_not.2 (unit_cmp (by omega))
  refine sx_condPF rfl h221x1 ?_
  refine sx_skip ?_
  refine q_bn (q_n (k99 _ _ ?_))
  refine sx_region ?_
  refine sp rfl (px_add rfl rfl (by omega)) ?_
  refine mv rfl rfl (wl_nil ?_)
  exact fun a ha => ⟨_, by omega, (k + 1), ha.sub (Sub.c 6 rfl (.c 8 rfl (.c 10 rfl (.c 86 rfl (.c 87 (look_int (t := 87) rfl (by first | omega | simp)) .nil))))), ((((cwl96.t d155).t c157).t c161).t c169), rfl, by omega⟩
 refine sx_exit ?_
 refine q_e (q_e (q_bx (q_n (k94 _ _ ?_))))
 refine sx_seq fun K171 k171 => sx_region ?_
 refine av rfl rfl (wl_nil (q_n (k171 _ _ ?_)))
 refine sx_retc ?_
 refine sx_ret1 Tryd.results3 rfl ?_
 have q172 := Chg.step (l := 0) (h := 0) (Chg.zero (l := 0) (h := 0) ((c6.t cb7).t cb9)) cw11 (by omega)
 have q173 := Chg.step (l := 0) (h := 0) q172 cw15 (by omega)
 have q174 := Chg.step (l := 0) (h := 0) q173 ((((((c26.t c33).t c37).t c40).t c56).t c60).t cb61) (by omega)
 have q175 := Chg.step (l := 0) (h := 0) q174 cw63 (by omega)
 have q176 := Chg.step (l := 0) (h := 0) q175 (c75.t cwl96) (by omega)
 exact ⟨rfl, q176⟩

end Go.Proofs.YtjkeefmpjocilaaDoor
